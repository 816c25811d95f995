/- A part of the proof of TopSoundsDescribed (texts Xe Xf Xg Xh Xi Xj Xk Xl): an executor of the program's code, proved sound, and its runs. No condition. -/
import Derived.Test.YtdflipbphcmpoaaGreatDoorP01
import Derived.Laws.Entries
import Derived.Laws.Cells
import Derived.ChangeKeysEq
import Derived.Laws.Strings
import Derived.Laws.BytesArg
import Derived.Laws.Cover4
import Derived.Lib.ConvBytes
set_option linter.unusedSimpArgs false
set_option linter.unusedVariables false
set_option maxRecDepth 100000
namespace Go.Sx
variable {G:(Nat→Option (List AV)) × (Nat→Loop→Prop)}
theorem Nx.kill {γ:Cx} {M:Mem} {w:World} (h:Inv G γ M w) (b:Nat):Nx G γ M w γ (M.kill b) w:=by
 have hget:∀ j y,(M.kill b).get j=some y→M.get j=some y:=fun j y hj=>by
  rw [Mem.get_kill] at hj
  split at hj
  ·cases hj
  ·exact hj
 refine ⟨Le.refl _,⟨h.base,h.imm,fun j y g hj=>h.box j y g (hget j y hj),fun j j' y y' g hj hj'=>h.inj j j' y y' g (hget _ _ hj) (hget _ _ hj'),h.tok,
  fun k L z x j y g hk hx hj=>h.tokb k L z x j y g hk hx (hget _ _ hj),h.tokt,h.nb,fun j y hj=>h.nbM j y (hget _ _ hj),h.nt,h.ntM,h.glo,h.yok⟩,rfl,rfl,rfl,Nat.le_refl _,
  fun _ _ _=>rfl,fun g _ hf=>?_,fun _ _ _ _=>rfl,fun _ _ h=>h,Nat.le_refl _,Nat.le_refl _⟩
 rcases hf with ⟨j,y,hj,hρ⟩ | hf
 ·exact .inl ⟨j,y,hget j y hj,hρ⟩
 ·exact .inr hf
theorem Nx.moveB {γ:Cx} {M:Mem} {w:World} (h:Inv G γ M w) {b:Nat} {x x':Box} {g:Nat} (hb:M.get b=some x) (hg:γ.ρ b=some g) (s:Option (Nat × Nat × Nat)) (w':World)
  (hx:∀ γ',Le γ γ'→γ'.I=γ.I→γ'.σ M.nb=s→BoxAt γ' w' M.nb g x') (hw:∀ g',g'≠g→w'.heap[g']?=w.heap[g']?) (hsz:w'.heap.size=w.heap.size) (h1:w'.os=w.os) (h2:w'.tape=w.tape) (h3:w'.output=w.output) :
  Nx G γ M w (γ.addB M.nb g s) ((M.kill b).new x') w':=by
 have hbx:=h.box b x g hb hg
 have hbn:=h.nbM b x hb
 have hle:=Cx.addB_le (g:=g) (s:=s) (h.nb M.nb (Nat.le_refl _))
 have hget:∀ j y,((M.kill b).new x').get j=some y→(j=M.nb∧y=x')∨(j≠M.nb∧j≠b∧M.get j=some y):=fun j y hj=>by
  rw [Mem.get_new] at hj
  split at hj
  ·rename_i e; exact .inl ⟨e.symm,(Option.some.inj hj).symm⟩
  ·rename_i e
   rw [Mem.get_kill] at hj
   split at hj
   ·cases hj
   ·rename_i e2; exact .inr ⟨fun q=>e q.symm,fun q=>e2 q.symm,hj⟩
 have hρ:∀ j g',(γ.addB M.nb g s).ρ j=some g'→(j=M.nb∧g'=g)∨(j≠M.nb∧γ.ρ j=some g'):=fun j g' hj=>by
  simp only [Cx.addB] at hj
  split at hj
  ·rename_i e; exact .inl ⟨e,(Option.some.inj hj).symm⟩
  ·rename_i e; exact .inr ⟨e,hj⟩
 have hne:∀ j y g',j≠b→M.get j=some y→γ.ρ j=some g'→g'≠g:=fun j y g' hjb hj hg' e=>by subst e; exact hjb (h.inj j b y x g' hj hb hg' hg)
 refine ⟨hle,⟨by rw [hsz]; exact h.base,?_,?_,?_,?_,?_,h.tokt,?_,?_,h.nt,h.ntM,fun i cells hc=>(h.glo i cells hc).mono hle,h.yok_keep rfl fun g' hg' hf=>hw g' fun e=>hf (.inl ⟨b,x,hb,e ▸ hg⟩)⟩,h1,h2,h3,by omega,?_,?_,fun _ _ _ _=>rfl,fun b hb hn=>by simp only [Cx.addB]; rw [if_neg (by omega)]; exact hn,Nat.le_succ _,Nat.le_refl _⟩
 ·intro g' o v hv
  have hne:g'≠g:=fun e=>by subst e; have:=hbx.noI o; change γ.I _ _=none at this; change γ.I _ _=some v at hv; rw [this] at hv; cases hv
  rw [World.cell?_of_block (w:=w) (hw g' hne)]
  exact h.imm g' o v hv
 ·intro j y g' hj hg'
  rcases hget j y hj with ⟨rfl,rfl⟩ | ⟨hn,hjb,hj⟩
  ·rcases hρ _ _ hg' with ⟨_,rfl⟩ | ⟨q,_⟩
   ·exact hx _ hle rfl (by simp [Cx.addB])
   ·exact absurd rfl q
  ·rcases hρ _ _ hg' with ⟨q,_⟩ | ⟨_,hg'⟩
   ·exact absurd q hn
   ·have hy:=h.box j y g' hj hg'
    exact hy.keep hg' hle hy.noI (hw g' (hne j y g' hjb hj hg'))
 ·intro j j' y y' g' hj hj' hg1 hg2
  rcases hget j y hj with ⟨e,_⟩ | ⟨hn,hjb,hj⟩ <;> rcases hget j' y' hj' with ⟨e',_⟩ | ⟨hn',hjb',hj'⟩
  ·rw [e,e']
  ·rcases hρ _ _ hg1 with ⟨_,e1⟩ | ⟨q,_⟩
   ·rcases hρ _ _ hg2 with ⟨q,_⟩ | ⟨_,hg2⟩
    ·exact absurd q hn'
    ·exact absurd e1 (hne j' y' g' hjb' hj' hg2)
   ·exact absurd e q
  ·rcases hρ _ _ hg2 with ⟨_,e1⟩ | ⟨q,_⟩
   ·rcases hρ _ _ hg1 with ⟨q,_⟩ | ⟨_,hg1⟩
    ·exact absurd q hn
    ·exact absurd e1 (hne j y g' hjb hj hg1)
   ·exact absurd e' q
  ·rcases hρ _ _ hg1 with ⟨q,_⟩ | ⟨_,hg1⟩
   ·exact absurd q hn
   ·rcases hρ _ _ hg2 with ⟨q,_⟩ | ⟨_,hg2⟩
    ·exact absurd q hn'
    ·exact h.inj j j' y y' g' hj hj' hg1 hg2
 ·intro k L z y hk hy
  obtain ⟨ha,hb',hc⟩:=h.tok k L z y hk hy
  exact ⟨ha,hb',hc.keep hle hc.2.1 (hw y.g fun e=>h.tokb k L z y b x g hk hy hb hg e.symm)⟩
 ·intro k L z y j u g' hk hy hj hg'
  rcases hget j u hj with ⟨e,_⟩ | ⟨hn,hjb,hj⟩
  ·rcases hρ _ _ hg' with ⟨_,e1⟩ | ⟨q,_⟩
   ·subst e1; exact h.tokb k L z y b x _ hk hy hb hg
   ·exact absurd e q
  ·rcases hρ _ _ hg' with ⟨q,_⟩ | ⟨_,hg'⟩
   ·exact absurd q hn
   ·exact h.tokb k L z y j u g' hk hy hj hg'
 ·intro j hj
  simp only [Mem.new,Mem.kill] at hj
  simp only [Cx.addB]
  rw [if_neg (by omega)]
  exact h.nb j (by omega)
 ·intro j y hj
  simp only [Mem.new,Mem.kill]
  rcases hget j y hj with ⟨q,_⟩ | ⟨_,_,hj⟩
  ·omega
  ·have:=h.nbM j y hj; omega
 ·intro g' hg' hf
  exact hw g' fun e=>hf (.inl ⟨b,x,hb,e ▸ hg⟩)
 ·intro g' _ hf
  rcases hf with ⟨j,y,hj,hρj⟩ | hf
  ·rcases hget j y hj with ⟨e,_⟩ | ⟨hn,_,hj⟩
   ·rcases hρ _ _ hρj with ⟨_,e1⟩ | ⟨q,_⟩
    ·exact .inl ⟨b,x,hb,e1 ▸ hg⟩
    ·exact absurd e q
   ·rcases hρ _ _ hρj with ⟨q,_⟩ | ⟨_,hρj⟩
    ·exact absurd q hn
    ·exact .inl ⟨j,y,hj,hρj⟩
  ·exact .inr hf
def Cx.setK (γ:Cx) (k:Nat) (x:Tk):Cx:={ γ with τ:=fun j=>if j=k then some x else γ.τ j }
theorem lookT_tok {M:Mem} {n z j:Nat}:lookT (M.tok n z).toks j=if M.nt=j then some (n,z) else lookT M.toks j:=by
 by_cases h:M.nt=j
 ·subst h; simp [Mem.tok,lookT]
 ·have:Nat.beq M.nt j=false:=beq_ne h
  simp [Mem.tok,lookT,h]
theorem Nx.token {γ:Cx} {M:Mem} {w:World} (h:Inv G γ M w) (k:Nat) (x:Tk) (M':Mem) (γ':Cx) (w':World)
  (hγB:γ'.B=γ.B) (hγY:γ'.Y=γ.Y) (hγσ:γ'.σ=γ.σ) (hγρ:γ'.ρ=γ.ρ) (hγτ:γ'.τ=fun j=>if j=k then some x else γ.τ j)
  (hnew:∀ y,γ.τ k=some y→y.L < x.L)
  (hMb:M'.boxes=M.boxes) (hMnb:M'.nb=M.nb) (hMnt:M.nt≤M'.nt) (hkn:k < M'.nt)
  (hMt:∀ j y,lookT M'.toks j=some y→(j=k∧y=(x.L,x.z))∨(j≠k∧lookT M.toks j=some y))
  (hI:∀ g o v,γ.I g o=some v→γ'.I g o=some v) (hI2:∀ g o,g < w.heap.size→g≠x.g→γ'.I g o=γ.I g o)
  (himm:∀ g o v,γ'.I g o=some v→w'.cell? ⟨g,o,none⟩=some v)
  (hx:TokAt γ' w' x) (hown:w.heap.size≤x.g∨∃ y z,lookT M.toks k=some z∧γ.τ k=some y∧y.g=x.g)
  (hw:∀ g,g < w.heap.size→g≠x.g→w'.heap[g]?=w.heap[g]?) (hsz:w.heap.size≤w'.heap.size) (h1:w'.os=w.os) (h2:w'.tape=w.tape) (h3:w'.output=w.output) :
  Nx G γ M w γ' M' w':=by
 have hle:Le γ γ':=⟨hγB,fun b g hb=>by rw [hγρ]; exact hb,fun j y hy=>by
  rw [hγτ]
  by_cases e:j=k
  ·subst e; exact ⟨x,by simp,.inr (hnew y hy)⟩
  ·exact ⟨y,by simp [e,hy],.inl rfl⟩,hI,fun b g _=>by rw [hγσ],hγY⟩
 have hget:∀ b,M'.get b=M.get b:=fun b=>by unfold Mem.get; rw [hMb]
 have hτ:∀ j y,γ'.τ j=some y→(j=k∧y=x)∨(j≠k∧γ.τ j=some y):=fun j y hy=>by
  rw [hγτ] at hy
  simp only at hy
  split at hy
  ·rename_i e; exact .inl ⟨e,(Option.some.inj hy).symm⟩
  ·rename_i e; exact .inr ⟨e,hy⟩
 -- other rows lie in other blocks
 have hbox:∀ b y g,M.get b=some y→γ.ρ b=some g→g≠x.g:=fun b y g hb hg e=>by
  have hlt:=(h.box b y g hb hg).lt
  rcases hown with hn | ⟨t,z,ht,hk,hgt⟩
  ·omega
  ·exact h.tokb k z.1 z.2 t b y g ht hk hb hg (by rw [e,hgt])
 have htok:∀ j y L z,j≠k→lookT M.toks j=some (L,z)→γ.τ j=some y→y.g≠x.g:=fun j y L z hj hl hy e=>by
  have hlt:=(h.tok j L z y hl hy).2.2.lt
  rcases hown with hn | ⟨t,z',ht,hk,hgt⟩
  ·omega
  ·exact hj (h.tokt j L z y k z'.1 z'.2 t hl hy ht hk (by rw [e,hgt]))
 have hkeep:∀ g,g < w.heap.size→¬ Foot γ M g→w'.heap[g]?=w.heap[g]?:=fun g hg hf=>by
  refine hw g hg fun e=>?_
  rcases hown with hn | ⟨t,z,ht,hk,hgt⟩
  ·omega
  ·exact hf (.inr ⟨k,z,t,ht,hk,by rw [hgt,e]⟩)
 refine ⟨hle,⟨by rw [hγB]; exact Nat.le_trans h.base hsz,himm,?_,?_,?_,?_,?_,?_,?_,?_,?_,fun i cells hc=>(h.glo i cells hc).mono hle,h.yok_keep hγY hkeep⟩,h1,h2,h3,hsz,?_,?_,fun g o hg hf=>hI2 g o hg fun e=>?_,fun b _ hn=>by rw [hγρ]; exact hn,by omega,hMnt⟩
 ·intro b y g hb hg
  rw [hget] at hb; rw [hγρ] at hg
  have hy:=h.box b y g hb hg
  have hne:=hbox b y g hb hg
  exact hy.keep hg hle (fun o=>by rw [hI2 g o hy.lt hne]; exact hy.noI o) (hw g hy.lt hne)
 ·intro b b' y y' g hb hb' hg hg'
  rw [hget] at hb hb'; rw [hγρ] at hg hg'
  exact h.inj b b' y y' g hb hb' hg hg'
 ·intro j L z y hl hy
  rcases hτ j y hy with ⟨rfl,rfl⟩ | ⟨hj,hy⟩
  ·rcases hMt j _ hl with ⟨_,e⟩ | ⟨q,_⟩
   ·cases e; exact ⟨rfl,rfl,hx⟩
   ·exact absurd rfl q
  ·rcases hMt j _ hl with ⟨q,_⟩ | ⟨_,hl⟩
   ·exact absurd q hj
   ·obtain ⟨ha,hb,hc⟩:=h.tok j L z y hl hy
    have hne:=htok j y L z hj hl hy
    exact ⟨ha,hb,hc.keep hle (fun o ho=>by rw [hI2 y.g o hc.lt hne]; exact hc.2.1 o ho) (hw y.g hc.lt hne)⟩
 ·intro j L z y b u g hl hy hb hg
  rw [hget] at hb; rw [hγρ] at hg
  rcases hτ j y hy with ⟨rfl,rfl⟩ | ⟨hj,hy⟩
  ·exact hbox b u g hb hg
  ·rcases hMt j _ hl with ⟨q,_⟩ | ⟨_,hl⟩
   ·exact absurd q hj
   ·exact h.tokb j L z y b u g hl hy hb hg
 ·intro j L z y j' L' z' y' hl hy hl' hy' hgg
  rcases hτ j y hy with ⟨e,e1⟩ | ⟨hj,hy⟩ <;> rcases hτ j' y' hy' with ⟨e',e1'⟩ | ⟨hj',hy'⟩
  ·rw [e,e']
  ·rcases hMt j' _ hl' with ⟨q,_⟩ | ⟨_,hl'⟩
   ·exact absurd q hj'
   ·exact absurd (by rw [← hgg,e1]) (htok j' y' L' z' hj' hl' hy')
  ·rcases hMt j _ hl with ⟨q,_⟩ | ⟨_,hl⟩
   ·exact absurd q hj
   ·exact absurd (by rw [hgg,e1']) (htok j y L z hj hl hy)
  ·rcases hMt j _ hl with ⟨q,_⟩ | ⟨_,hl⟩
   ·exact absurd q hj
   ·rcases hMt j' _ hl' with ⟨q,_⟩ | ⟨_,hl'⟩
    ·exact absurd q hj'
    ·exact h.tokt j L z y j' L' z' y' hl hy hl' hy' hgg
 ·intro b hb; rw [hγρ]; exact h.nb b (by omega)
 ·intro b y hb; rw [hget] at hb; rw [hMnb]; exact h.nbM b y hb
 ·intro j hj
  rw [hγτ]
  simp only
  rw [if_neg (by omega)]
  exact h.nt j (by omega)
 ·intro j y hl
  rcases hMt j y hl with ⟨e,_⟩ | ⟨_,hl⟩
  ·omega
  ·have:=h.ntM j y hl; omega
 ·intro g hg hf
  refine hw g hg fun e=>?_
  rcases hown with hn | ⟨t,z,ht,hk,hgt⟩
  ·omega
  ·exact hf (.inr ⟨k,z,t,ht,hk,by rw [hgt,e]⟩)
 ·intro g hg hf
  rcases hf with ⟨b,y,hb,hρ⟩ | ⟨j,y,t,hl,ht,hgt⟩
  ·rw [hget] at hb; rw [hγρ] at hρ
   exact .inl ⟨b,y,hb,hρ⟩
  ·rcases hτ j t ht with ⟨e,rfl⟩ | ⟨hj,ht⟩
   ·rcases hown with hn | ⟨t',z,ht',hk,hgt'⟩
    ·omega
    ·exact .inr ⟨k,z,t',ht',hk,by rw [hgt',hgt]⟩
   ·rcases hMt j _ hl with ⟨q,_⟩ | ⟨_,hl⟩
    ·exact absurd q hj
    ·exact .inr ⟨j,y,t,hl,ht,hgt⟩
 ·rcases hown with hn | ⟨t,z,ht,hk,hgt⟩
  ·omega
  ·exact hf (.inr ⟨k,z,t,ht,hk,by rw [hgt,e]⟩)
end Go.Sx
namespace Go.Sx
variable {P:Program} {E:Env} {γ:Cx} {M:Mem} {w:World} {tm:Tm} {a:Act}
def TmR (γ:Cx) (tm:Tm) (tmps:Array Value):Prop:=∀ i,VR γ false (lk tm i) (tmps.getD i undef)
theorem TmR.mono {γ γ':Cx} {tm:Tm} {t:Array Value} (h:TmR γ tm t) (hle:Le γ γ'):TmR γ' tm t:=fun i=>(h i).mono hle
theorem VR.bool_inv {γ:Cx} {p:Bool} {b:Bool} {v:Value} (h:VR γ p (.bool b) v):v=.bool b:=by cases h; rfl
theorem VR.int_inv {γ:Cx} {p:Bool} {k:IntKind} {n:Int} {v:Value} (h:VR γ p (.int k n) v):v=.int k n:=by cases h; rfl
theorem VR.str_inv {γ:Cx} {p:Bool} {l:List Nat} {v:Value} (h:VR γ p (.str l) v):∃ s:ByteArray,v=.string s∧s.data.toList.map UInt8.toNat=l:=by
 cases h with | str _ _ s h=>exact ⟨s,rfl,h⟩
theorem VR.agg_inv {γ:Cx} {p:Bool} {cs:List AV} {v:Value} (h:VR γ p (.agg cs) v):∃ a:Array Value,v=.agg a∧VRs γ p cs a.toList:=by
 cases h with | agg _ _ a hl h=>exact ⟨a,rfl,hl,h⟩
theorem VR.tup_inv {γ:Cx} {p:Bool} {cs:List AV} {v:Value} (h:VR γ p (.tup cs) v):∃ a:Array Value,v=.tuple a∧VRs γ p cs a.toList:=by
 cases h with | tup _ _ a hl h=>exact ⟨a,rfl,hl,h⟩
theorem VR.ptr_inv {γ:Cx} {p:Bool} {b off:Nat} {v:Value} (h:VR γ p (.ptr b off) v):∃ g,v=.pointer (some ⟨g,off,none⟩)∧γ.ρ b=some g:=by
 cases h with | ptr _ _ g h=>exact ⟨g,rfl,h⟩
theorem VR.cp_inv {γ:Cx} {p:Bool} {cs:List AV} {v:Value} (h:VR γ p (.cp cs) v):∃ g o vs,v=.pointer (some ⟨g,o,none⟩)∧VRs γ true cs vs∧∀ (i:Nat) (u:Value),vs[i]?=some u→γ.I g (o + i)=some u:=by
 cases h with | cp _ _ vs g o hl h hi=>exact ⟨g,o,vs,rfl,⟨hl,h⟩,hi⟩
theorem VR.nils_inv {γ:Cx} {p:Bool} {v:Value} (h:VR γ p .nils v):v=.slice none 0 0:=by cases h; rfl
theorem VR.ms_inv {γ:Cx} {p:Bool} {b off n c:Nat} {v:Value} (h:VR γ p (.ms b off n c) v):∃ g c',v=.slice (some ⟨g,off,none⟩) n c'∧γ.ρ b=some g∧n≤c∧c≤c'∧(off=0→c'=c∨∃ z S,γ.σ b=some (c,z,S)∧c' * z≤S):=by
 cases h with | ms _ _ _ _ c' g h hn hc hs=>exact ⟨g,c',rfl,h,hn,hc,hs⟩
theorem VR.sl_inv {γ:Cx} {p:Bool} {t e n:Nat} {cs:List AV} {v:Value} (h:VR γ p (.sl t e n cs) v):∃ g o c vs,v=.slice (some ⟨g,o,none⟩) n c∧VRs γ true cs vs∧(∀ (i:Nat) (u:Value),vs[i]?=some u→γ.I g (o + i)=some u) ∧
  n≤c∧(t=1→c=n)∧∀ k,t=k + 2→p=false∧∃ x,γ.τ k=some x∧e≤x.L∧(e=x.L→cs.length=n * x.z∧(c=n∨(g=x.g∧o + cs.length=x.e∧o + c * x.z≤x.S))):=by
 cases h with | sl _ _ _ _ _ vs g o c hl h hi hn h1 h2=>exact ⟨g,o,c,vs,rfl,⟨hl,h⟩,hi,hn,h1,h2⟩
theorem VR.mkagg {γ:Cx} {p:Bool} {cs:List AV} {a:Array Value} (h:VRs γ p cs a.toList):VR γ p (.agg cs) (.agg a):=.agg p cs a h.1 h.2
theorem VR.mktup {γ:Cx} {p:Bool} {cs:List AV} {a:Array Value} (h:VRs γ p cs a.toList):VR γ p (.tup cs) (.tuple a):=.tup p cs a h.1 h.2
theorem VR.mkcp {γ:Cx} {p:Bool} {cs:List AV} {vs:List Value} {g o:Nat} (h:VRs γ true cs vs) (hi:∀ (i:Nat) (u:Value),vs[i]?=some u→γ.I g (o + i)=some u):VR γ p (.cp cs) (.pointer (some ⟨g,o,none⟩)):=
 .cp p cs vs g o h.1 h.2 hi
theorem VR.one {γ:Cx} {p:Bool} {a:AV} {v:Value} (h:VR γ p a v) (ho:oneA a=true):v.oneCell'=true:=by
 cases h <;> first | rfl | (simp [oneA] at ho)
theorem VR.cells1 {γ:Cx} {p:Bool} {a:AV} {v:Value} (h:VR γ p a v) (ho:a.cells.all oneA=true):VRs γ p a.cells v.cells.toList:=by
 cases h with
 | agg _ cs x hl h=>exact ⟨hl,h⟩
 | any _ v=>simp [AV.cells,oneA] at ho
 | tup _ cs x hl h=>simp [AV.cells,oneA] at ho
 | bool _ b=>exact VRs.cons (.bool _ b) (VRs.nil _ _)
 | int _ k n=>exact VRs.cons (.int _ k n) (VRs.nil _ _)
 | str _ l s h=>exact VRs.cons (.str _ l s h) (VRs.nil _ _)
 | nilp _=>exact VRs.cons (.nilp _) (VRs.nil _ _)
 | ptr b o g h=>exact VRs.cons (.ptr b o g h) (VRs.nil _ _)
 | cp _ cs vs g o hl h hi=>exact VRs.cons (.cp _ cs vs g o hl h hi) (VRs.nil _ _)
 | nils _=>exact VRs.cons (.nils _) (VRs.nil _ _)
 | sl _ t e n cs vs g o c hl h hi hn h1 h2=>exact VRs.cons (.sl _ t e n cs vs g o c hl h hi hn h1 h2) (VRs.nil _ _)
 | ms b o n c c2 g h hn hc hs=>exact VRs.cons (.ms b o n c c2 g h hn hc hs) (VRs.nil _ _)
 | fn _ f x y vx vy h1 h2 h3 h4=>exact VRs.cons (.fn _ f x y vx vy h1 h2 h3 h4) (VRs.nil _ _)
 | nilf _=>exact VRs.cons (.nilf _) (VRs.nil _ _)
 | iface _ t v w h=>exact VRs.cons (.iface _ t v w h) (VRs.nil _ _)
 | nili _=>exact VRs.cons (.nili _) (VRs.nil _ _)
 | yld=>simp [AV.cells,oneA] at ho
theorem ofCell_sound {γ:Cx} {p:Bool} {v:Value} {a:AV} (h:ofCell v=some a):VR γ p a v:=by
 cases v with
 | bool b=>cases h; exact .bool p b
 | int k n=>cases h; exact .int p k n
 | string s=>cases h; exact .str p _ s rfl
 | pointer x=>cases x with
  | none=>cases h; exact .nilp p
  | some _=>cases h
 | slice x n c=>
  cases x with
  | some _=>cases h
  | none=>
   cases n with
   | zero=>cases c with
    | zero=>cases h; exact .nils p
    | succ _=>cases h
   | succ _=>cases h
 | nilFunc=>cases h; exact .nilf p
 | nilIface=>cases h; exact .nili p
 | _=>cases h
theorem ofCell_one {v:Value} {a:AV} (h:ofCell v=some a):oneA a=true∧v.oneCell'=true:=by
 cases v with
 | bool b=>cases h; exact ⟨rfl,rfl⟩
 | int k n=>cases h; exact ⟨rfl,rfl⟩
 | string s=>cases h; exact ⟨rfl,rfl⟩
 | pointer x=>cases x with
  | none=>cases h; exact ⟨rfl,rfl⟩
  | some _=>cases h
 | slice x n c=>
  cases x with
  | some _=>cases h
  | none=>
   cases n with
   | zero=>cases c with
    | zero=>cases h; exact ⟨rfl,rfl⟩
    | succ _=>cases h
   | succ _=>cases h
 | nilFunc=>cases h; exact ⟨rfl,rfl⟩
 | nilIface=>cases h; exact ⟨rfl,rfl⟩
 | _=>cases h
theorem ofCells_sound {γ:Cx} {p:Bool}:∀ {vs:List Value} {as:List AV},ofCells vs=some as→VRs γ p as vs
 | [],as,h=>by cases h; exact VRs.nil _ _
 | v :: r,as,h=>by
  simp only [ofCells,Option.bind_eq_some_iff,Option.map_eq_some_iff] at h
  obtain ⟨x,hx,xs,hxs,rfl⟩:=h
  exact VRs.cons (ofCell_sound hx) (ofCells_sound hxs)
theorem ofCells_one:∀ {vs:List Value} {as:List AV},ofCells vs=some as→as.all oneA=true∧∀ v∈vs,v.oneCell'=true
 | [],as,h=>by cases h; exact ⟨rfl,fun _ h=>by cases h⟩
 | v :: r,as,h=>by
  simp only [ofCells,Option.bind_eq_some_iff,Option.map_eq_some_iff] at h
  obtain ⟨x,hx,xs,hxs,rfl⟩:=h
  obtain ⟨h1,h2⟩:=ofCells_one hxs
  refine ⟨by simp [(ofCell_one hx).1]; simpa using h1,fun u hu=>?_⟩
  rcases List.mem_cons.1 hu with rfl | hu
  ·exact (ofCell_one hx).2
  ·exact h2 u hu
theorem ofVal_sound {γ:Cx} {p:Bool} {v:Value} {a:AV} (h:ofVal v=some a):VR γ p a v:=by
 cases v with
 | agg cs=>
  simp only [ofVal,Option.map_eq_some_iff] at h
  obtain ⟨x,hx,rfl⟩:=h
  exact VR.mkagg (ofCells_sound hx)
 | tuple vs=>
  simp only [ofVal] at h
  split at h
  ·rename_i e
   cases h
   exact VR.mktup (by rw [e]; exact VRs.nil _ _)
  ·cases h
 | _=>exact ofCell_sound h
theorem evx_sound (hI:Inv E.gx γ M w) (ht:TmR γ tm a.tmps) {o:Operand} {x:Opd} {v:AV} (hc:compOpd o=some x) (hv:evx E tm x=some v):VR γ false v (a.eval o):=by
 cases o with
 | tmp t=>cases hc; cases hv; exact ht t
 | const c=>
  simp only [compOpd,Option.map_eq_some_iff] at hc
  obtain ⟨y,hy,rfl⟩:=hc
  cases hv
  exact ofVal_sound hy
 | global g=>
  cases hc
  simp only [evx,Option.map_eq_some_iff] at hv
  obtain ⟨y,hy,rfl⟩:=hv
  exact (hI.glo g y hy).of_pure
 | func f=>
  cases hc; cases hv
  exact .fn false f [] [] #[] #[] rfl rfl (fun i x v h=>by simp at h) fun i x v h=>by simp at h
theorem evxs_sound (hI:Inv E.gx γ M w) (ht:TmR γ tm a.tmps):∀ {os:List Operand} {xs:List Opd} {vs:List AV},compOpds os=some xs→evxs E tm xs=some vs→VRs γ false vs (os.map a.eval)
 | [],xs,vs,hc,hv=>by cases hc; cases hv; exact VRs.nil _ _
 | o :: r,xs,vs,hc,hv=>by
  simp only [compOpds,Option.bind_eq_some_iff,Option.map_eq_some_iff] at hc
  obtain ⟨x,hx,xr,hxr,rfl⟩:=hc
  simp only [evxs,Option.bind_eq_some_iff,Option.map_eq_some_iff] at hv
  obtain ⟨v,hv,vr,hvr,rfl⟩:=hv
  exact VRs.cons (evx_sound hI ht hx hv) (evxs_sound hI ht hxr hvr)
theorem evo_sound (hI:Inv E.gx γ M w) (ht:TmR γ tm a.tmps) {o:Option Operand} {x:Option Opd} {v:Option AV} (hc:compO o=some x) (hv:evo E tm x=some v) :
  (o=none∧v=none)∨∃ o' v',o=some o'∧v=some v'∧VR γ false v' (a.eval o'):=by
 cases o with
 | none=>cases hc; cases hv; exact .inl ⟨rfl,rfl⟩
 | some o=>
  simp only [compO,Option.map_eq_some_iff] at hc
  obtain ⟨y,hy,rfl⟩:=hc
  simp only [evo,Option.map_eq_some_iff] at hv
  obtain ⟨u,hu,rfl⟩:=hv
  exact .inr ⟨o,u,rfl,rfl,evx_sound hI ht hy hu⟩
end Go.Sx
namespace Go.Sx
variable {P:Program} {E:Env} {γ:Cx} {M:Mem} {w:World} {tm:Tm} {a:Act} {o:Oper}
def Runs (P:Program) (G:(Nat→Option (List AV)) × (Nat→Loop→Prop)) (γ:Cx) (M:Mem) (w:World) (a:Act) (o:Oper) (r:AV) (M':Mem):Prop:=
 ∃ γ' v w',((execOp a.eval o).run P w=.ok (.value v) w'∨((execOp a.eval o).run P w=.ok .skip w'∧v=undef))∧VR γ' false r v∧Nx G γ M w γ' M' w'
theorem Runs.same (hI:Inv E.gx γ M w) {r:AV} {v:Value} (hr:(execOp a.eval o).run P w=.ok (.value v) w) (hv:VR γ false r v):Runs P E.gx γ M w a o r M:=
 ⟨γ,v,w,.inl hr,hv,Nx.refl hI⟩
theorem op_mv (hI:Inv E.gx γ M w) (ht:TmR γ tm a.tmps) {y:Operand} {x:Opd} {r:AV} (ho:o.op=.move y∨o.op=.assign y) (hc:compOpd y=some x) (hv:evx E tm x=some r):Runs P E.gx γ M w a o r M:=by
 refine Runs.same hI (v:=a.eval y) ?_ (evx_sound hI ht hc hv)
 rcases ho with ho | ho <;> simp [execOp,ho,pure]
theorem run_asBool {v:Value} {b:Bool} (h:v=.bool b):(asBool v).run P w=.ok b w:=by subst h; rfl
theorem op_pick (hI:Inv E.gx γ M w) (ht:TmR γ tm a.tmps) {c x y:Operand} {c' x' y':Opd} {t:Bool} {r:AV} (ho:o.op=.pick c x y) (hc:compOpd c=some c') (hx:compOpd x=some x') (hy:compOpd y=some y')
  (hvc:evx E tm c'=some (.bool t)) (hv:(if t then evx E tm x' else evx E tm y')=some r):Runs P E.gx γ M w a o r M:=by
 have h1:=(evx_sound hI ht hc hvc).bool_inv
 refine Runs.same hI (v:=if t then a.eval x else a.eval y) ?_ ?_
 ·simp [execOp,ho,run_asBool h1]
 ·cases t
  ·exact evx_sound hI ht hy hv
  ·exact evx_sound hI ht hx hv
theorem run_binOp_int (t:TypeId) {op:BinOp} {k:IntKind} {m n:Int} {r:AV} (hs:op≠.shl∧op≠.shr) (h:intBin op k m n=some r) :
  ∃ v,(binOp op t (.int k m) (.int k n)).run P w=.ok v w∧VR γ false r v:=by
 cases op with
 | add=>cases h; exact ⟨.int k (k.wrap (m + n)),by simp [binOp,Op.intArith],.int _ _ _⟩
 | sub=>cases h; exact ⟨.int k (k.wrap (m - n)),by simp [binOp,Op.intArith],.int _ _ _⟩
 | mul=>cases h; exact ⟨.int k (k.wrap (m * n)),by simp [binOp,Op.intArith],.int _ _ _⟩
 | quo=>
  simp only [intBin] at h
  split at h
  ·cases h
  ·rename_i hn
   cases h
   exact ⟨.int k (k.wrap (m.tdiv n)),by simp [binOp,Op.intDiv,hn],.int _ _ _⟩
 | rem=>
  simp only [intBin] at h
  split at h
  ·cases h
  ·rename_i hn
   cases h
   exact ⟨.int k (m.tmod n),by simp [binOp,Op.intDiv,hn],.int _ _ _⟩
 | and=>cases h; exact ⟨.int k (k.wrap (BitVec.ofInt k.bits m &&& BitVec.ofInt k.bits n).toNat),by simp [binOp,Op.intBits],.int _ _ _⟩
 | or=>cases h; exact ⟨.int k (k.wrap (BitVec.ofInt k.bits m ||| BitVec.ofInt k.bits n).toNat),by simp [binOp,Op.intBits],.int _ _ _⟩
 | xor=>cases h; exact ⟨.int k (k.wrap (BitVec.ofInt k.bits m ^^^ BitVec.ofInt k.bits n).toNat),by simp [binOp,Op.intBits],.int _ _ _⟩
 | andNot=>cases h; exact ⟨.int k (k.wrap (BitVec.ofInt k.bits m &&& ~~~ BitVec.ofInt k.bits n).toNat),by simp [binOp,Op.intBits],.int _ _ _⟩
 | eql=>cases h; exact ⟨.bool (m == n),by simp [binOp,Op.intCmp],.bool _ _⟩
 | neq=>cases h; exact ⟨.bool (m != n),by simp [binOp,Op.intCmp],.bool _ _⟩
 | lss=>cases h; exact ⟨.bool (m < n),by simp [binOp,Op.intCmp],.bool _ _⟩
 | leq=>cases h; exact ⟨.bool (m≤n),by simp [binOp,Op.intCmp],.bool _ _⟩
 | gtr=>cases h; exact ⟨.bool (m > n),by simp [binOp,Op.intCmp],.bool _ _⟩
 | geq=>cases h; exact ⟨.bool (m ≥ n),by simp [binOp,Op.intCmp],.bool _ _⟩
 | shl=>exact absurd rfl hs.1
 | shr=>exact absurd rfl hs.2
theorem run_binOp_sh (t:TypeId) {op:BinOp} {k k':IntKind} {m n:Int} {r:AV} (hs:op=.shl∨op=.shr) (h:shBin op k m n=some r) :
  ∃ v,(binOp op t (.int k m) (.int k' n)).run P w=.ok v w∧VR γ false r v:=by
 unfold shBin at h
 split at h
 ·cases h
 ·rename_i hn
  rcases hs with rfl | rfl
  ·cases h
   exact ⟨.int k (k.wrap (m * 2 ^ (Nat.min n.toNat k.bits))),by simp [binOp,Op.shift,hn],.int _ _ _⟩
  ·cases h
   exact ⟨.int k (m.fdiv (2 ^ (Nat.min n.toNat k.bits))),by simp [binOp,Op.shift,hn],.int _ _ _⟩
theorem natsEq_iff:∀ {x y:List Nat},natsEq x y=true ↔ x=y
 | [],[]=>by simp [natsEq]
 | [],_ :: _=>by simp [natsEq]
 | _ :: _,[]=>by simp [natsEq]
 | a :: x,b :: y=>by simp [natsEq,natsEq_iff]
theorem map_toNat_inj:∀ {x y:List UInt8},x.map UInt8.toNat=y.map UInt8.toNat ↔ x=y
 | [],[]=>by simp
 | [],_ :: _=>by simp
 | _ :: _,[]=>by simp
 | a :: x,b :: y=>by
  simp only [List.map_cons,List.cons.injEq,map_toNat_inj]
  constructor
  ·rintro ⟨h,rfl⟩; exact ⟨UInt8.toNat_inj.1 h,rfl⟩
  ·rintro ⟨rfl,rfl⟩; exact ⟨rfl,rfl⟩
theorem natsLess_map:∀ (x y:List UInt8),natsLess (x.map UInt8.toNat) (y.map UInt8.toNat)=Op.bytesLess x y
 | _,[]=>by simp [natsLess,Op.bytesLess]
 | [],_ :: _=>by simp [natsLess,Op.bytesLess]
 | a :: x,b :: y=>by
  simp only [List.map_cons,natsLess,Op.bytesLess,natsLess_map x y]
  have e1:Nat.blt a.toNat b.toNat=decide (a < b):=by
   rw [Bool.eq_iff_iff]; simp [UInt8.lt_iff_toNat_lt,Nat.blt_eq]
  have e2:Nat.beq a.toNat b.toNat=(a == b):=by
   rw [Bool.eq_iff_iff]; simp [UInt8.toNat_inj]
  rw [e1,e2]
theorem natsEq_map (s u:ByteArray):natsEq (s.data.toList.map UInt8.toNat) (u.data.toList.map UInt8.toNat)=(s.data.toList == u.data.toList):=by
 rw [Bool.eq_iff_iff,natsEq_iff,map_toNat_inj]; simp
theorem run_binOp_str (t:TypeId) {op:BinOp} {x y:List Nat} {s u:ByteArray} {r:AV} (hx:s.data.toList.map UInt8.toNat=x) (hy:u.data.toList.map UInt8.toNat=y) (h:strBin op x y=some r) :
  ∃ v,(binOp op t (.string s) (.string u)).run P w=.ok v w∧VR γ false r v:=by
 have hls:s.size=x.length:=by rw [← hx]; simp
 have hlu:u.size=y.length:=by rw [← hy]; simp
 have he:natsEq x y=(s.toList == u.toList):=by rw [← hx,← hy,natsEq_map,ByteArray.toList_eq,ByteArray.toList_eq]
 have hl:natsLess x y=Op.bytesLess s.toList u.toList:=by rw [← hx,← hy,natsLess_map,ByteArray.toList_eq,ByteArray.toList_eq]
 cases op <;> simp only [strBin,Option.some.injEq,reduceCtorEq] at h
 case add=>
  split at h
  ·rename_i hle
   cases h
   have hn:¬ ((s.size:Int) + (u.size:Int) > 9223372036854775807):=by omega
   refine ⟨.string (s ++ u),?_,.str _ _ _ ?_⟩
   ·simp [binOp,Op.stringOp]
    omega
   ·rw [← hx,← hy]
    simp [ByteArray.data_append]
  ·cases h
 case eql=>subst h; exact ⟨.bool (s.toList == u.toList),by simp [binOp,Op.stringOp],he ▸ .bool _ _⟩
 case neq=>subst h; exact ⟨.bool !(s.toList == u.toList),by simp [binOp,Op.stringOp],he ▸ .bool _ _⟩
 case lss=>subst h; exact ⟨.bool (Op.bytesLess s.toList u.toList),by simp [binOp,Op.stringOp],hl ▸ .bool _ _⟩
 case leq=>subst h; exact ⟨.bool (Op.bytesLess s.toList u.toList || (s.toList == u.toList)),by simp [binOp,Op.stringOp],he ▸ hl ▸ .bool _ _⟩
 case gtr=>subst h; exact ⟨.bool !(Op.bytesLess s.toList u.toList || (s.toList == u.toList)),by simp [binOp,Op.stringOp],he ▸ hl ▸ .bool _ _⟩
 case geq=>subst h; exact ⟨.bool !(Op.bytesLess s.toList u.toList),by simp [binOp,Op.stringOp],hl ▸ .bool _ _⟩
theorem run_eqGuard_no {op : BinOp} {t : TypeId} {x y : Operand} {u v : Value} (h1 : ∀ cs ds, u = .agg cs → v = .agg ds → False) (h2 : u = .nilIface → v = .nilIface → False) : (eqGuard op t x y u v).run P w = .ok () w := by
  unfold eqGuard
  split <;> first
    | rfl
    | (simp only [Bool.not_true, Bool.false_eq_true, if_false]
       cases u <;> cases v <;> first | rfl | exact (h1 _ _ rfl rfl).elim | exact (h2 rfl rfl).elim)
theorem fin_bin (hI:Inv E.gx γ M w) {op:BinOp} {t ty:TypeId} {x y:Operand} {u v:Value} {r:AV} (ho:o.op=.binOp op t x y ty) (eu:a.eval x=u) (ev:a.eval y=v)
  (h:∃ z,(binOp op t u v).run P w=.ok z w∧VR γ false r z) (h1:∀ cs ds,u=.agg cs→v=.agg ds→False) (h2:u=.nilIface→v=.nilIface→False):Runs P E.gx γ M w a o r M:=by
 obtain ⟨z,hz,hr⟩:=h
 refine Runs.same hI (v:=z) ?_ hr
 simp [execOp,ho,eu,ev,run_eqGuard_no h1 h2,hz]
theorem op_bin (hI:Inv E.gx γ M w) (ht:TmR γ tm a.tmps) {op:BinOp} {t ty:TypeId} {x y:Operand} {x' y':Opd} {u v r:AV} (ho:o.op=.binOp op t x y ty) (hx:compOpd x=some x') (hy:compOpd y=some y')
  (hvx:evx E tm x'=some u) (hvy:evx E tm y'=some v) (hb:binA op u v=some r):Runs P E.gx γ M w a o r M:=by
 have r1:=evx_sound hI ht hx hvx
 have r2:=evx_sound hI ht hy hvy
 unfold binA at hb
 split at hb
 ·exact fin_bin hI ho r1.int_inv r2.int_inv (run_binOp_sh t (.inl rfl) hb) (by simp) (by simp)
 ·exact fin_bin hI ho r1.int_inv r2.int_inv (run_binOp_sh t (.inr rfl) hb) (by simp) (by simp)
 ·rename_i h1 h2
  split at hb
  ·rename_i hk
   subst hk
   exact fin_bin hI ho r1.int_inv r2.int_inv (run_binOp_int t ⟨h1,h2⟩ hb) (by simp) (by simp)
  ·cases hb
 ·obtain ⟨s,e1,hs⟩:=r1.str_inv
  obtain ⟨u,e2,hu'⟩:=r2.str_inv
  exact fin_bin hI ho e1 e2 (run_binOp_str t hs hu' hb) (by simp) (by simp)
 ·cases hb
theorem run_equalIn_bool {t:TypeId} (hu:P.underlying t=some .bool) (d:Nat) (x y:Bool):(Op.equalIn (d + 1) t (.bool x) (.bool y)).run P w=.ok (x == y) w:=by
 simp [Op.equalIn,run_underlying hu]
theorem run_equalIn_int {t:TypeId} {k:IntKind} (hu:P.underlying t=some (.int k)) (d:Nat) (j:IntKind) (x y:Int):(Op.equalIn (d + 1) t (.int j x) (.int j y)).run P w=.ok (x == y) w:=by
 simp [Op.equalIn,run_underlying hu]
theorem binOp_eql_bool (t:TypeId) (x y:Bool):binOp .eql t (.bool x) (.bool y)=(do pure (.bool (← Op.equal t (.bool x) (.bool y)))):=rfl
theorem binOp_neq_bool (t:TypeId) (x y:Bool):binOp .neq t (.bool x) (.bool y)=(do pure (.bool (!(← Op.equal t (.bool x) (.bool y))))):=rfl
theorem op_binB (hI:Inv E.gx γ M w) (ht:TmR γ tm a.tmps) {op:BinOp} {neg:Bool} {t ty:TypeId} {x y:Operand} {x' y':Opd} {u v:Bool} (ho:o.op=.binOp op t x y ty) (hx:compOpd x=some x') (hy:compOpd y=some y')
  (hop:(op=.eql∧neg=false)∨(op=.neq∧neg=true)) (hu:P.underlying t=some .bool) (hvx:evx E tm x'=some (.bool u)) (hvy:evx E tm y'=some (.bool v)) :
  Runs P E.gx γ M w a o (.bool (if neg then !(u == v) else u == v)) M:=by
 have e1:=(evx_sound hI ht hx hvx).bool_inv
 have e2:=(evx_sound hI ht hy hvy).bool_inv
 have hq:(Op.equal t (.bool u) (.bool v)).run P w=.ok (u == v) w:=run_equalIn_bool hu 9999 u v
 rcases hop with ⟨rfl,rfl⟩ | ⟨rfl,rfl⟩
 ·refine fin_bin hI ho e1 e2 ⟨.bool (u == v),?_,.bool _ _⟩ (by simp) (by simp)
  rw [binOp_eql_bool]; simp [hq]
 ·refine fin_bin hI ho e1 e2 ⟨.bool !(u == v),?_,.bool _ _⟩ (by simp) (by simp)
  rw [binOp_neq_bool]; simp [hq]
end Go.Sx
namespace Go.Sx
variable {P:Program} {E:Env} {γ:Cx} {M:Mem} {w:World} {tm:Tm} {a:Act} {o:Oper}
theorem isInt_spec {t:TypeId} (h:isInt P t=true):∃ k,P.underlying t=some (.int k):=by
 unfold isInt at h
 split at h
 ·rename_i k e; exact ⟨k,e⟩
 ·cases h
theorem run_isAgg_int {t:TypeId} {k:IntKind} (h:P.underlying t=some (.int k)):(isAgg t).run P w=.ok false w:=by
 simp [isAgg,run_underlying h]
theorem run_part_int {t:TypeId} {k:IntKind} (h:P.underlying t=some (.int k)) {cs:Array Value} {off:Nat} {v:Value} (hv:cs[off]?=some v):(part t cs off).run P w=.ok v w:=by
 simp [part,run_isAgg_int h,hv]
theorem intsEq_two:∀ {x y:List AV} {r:Bool},intsEq x y=some r→x.length=2 →
  ∃ k a k' b c d,x=[.int k a,.int k' b]∧y=[.int k c,.int k' d]∧r=((a == c) && (b == d))
 | [.int k a,.int k' b],y,r,h,_=>by
  cases y with
  | nil=>simp [intsEq] at h
  | cons y1 ys=>
   cases y1 <;> simp only [intsEq,reduceCtorEq] at h
   rename_i j c
   split at h
   ·rename_i e
    subst e
    cases ys with
    | nil=>simp [intsEq] at h
    | cons y2 yr=>
     cases y2 <;> simp only [intsEq,reduceCtorEq,Option.map_none] at h
     rename_i j' d
     split at h
     ·rename_i e
      subst e
      cases yr with
      | nil=>simp [intsEq] at h; exact ⟨k,a,k',b,c,d,rfl,rfl,h.symm⟩
      | cons _ _=>simp [intsEq] at h
     ·simp at h
   ·cases h
 | [.int _ _,.bool _],y,r,h,_ | [.int _ _,.str _],y,r,h,_ | [.int _ _,.nilp],y,r,h,_ | [.int _ _,.ptr _ _],y,r,h,_ | [.int _ _,.cp _],y,r,h,_ | [.int _ _,.nils],y,r,h,_
 | [.int _ _,.sl _ _ _ _],y,r,h,_ | [.int _ _,.ms _ _ _ _],y,r,h,_ | [.int _ _,.fn _ _ _],y,r,h,_ | [.int _ _,.nilf],y,r,h,_ | [.int _ _,.iface _ _],y,r,h,_ | [.int _ _,.nili],y,r,h,_
 | [.int _ _,.yld _ _ _],y,r,h,_ | [.int _ _,.agg _],y,r,h,_ | [.int _ _,.tup _],y,r,h,_ | [.int _ _,.any],y,r,h,_=>by
  cases y with
  | nil=>simp [intsEq] at h
  | cons y1 ys=>
   cases y1 <;> simp only [intsEq,reduceCtorEq] at h
   split at h
   ·cases ys with
    | nil=>simp [intsEq] at h
    | cons y2 yr=>cases y2 <;> simp [intsEq] at h
   ·cases h
 | .bool _ :: _,y,r,h,_ | .str _ :: _,y,r,h,_ | .nilp :: _,y,r,h,_ | .ptr _ _ :: _,y,r,h,_ | .cp _ :: _,y,r,h,_ | .nils :: _,y,r,h,_
 | .sl _ _ _ _ :: _,y,r,h,_ | .ms _ _ _ _ :: _,y,r,h,_ | .fn _ _ _ :: _,y,r,h,_ | .nilf :: _,y,r,h,_ | .iface _ _ :: _,y,r,h,_ | .nili :: _,y,r,h,_
 | .yld _ _ _ :: _,y,r,h,_ | .agg _ :: _,y,r,h,_ | .tup _ :: _,y,r,h,_ | .any :: _,y,r,h,_=>by simp [intsEq] at h
theorem VRs.two {γ:Cx} {p:Bool} {x y:AV} {vs:List Value} (h:VRs γ p [x,y] vs):∃ u v,vs=[u,v]∧VR γ p x u∧VR γ p y v:=by
 obtain ⟨u,r,rfl,h1,h2⟩:=h.cons_inv
 obtain ⟨v,r,rfl,h3,h4⟩:=h2.cons_inv
 exact ⟨u,v,by rw [h4.nil_inv],h1,h3⟩
theorem run_equal_flat {t:TypeId} (hf:flatT P t=true) {k k':IntKind} {m n m' n':Int} {xs ys:Array Value} (hx:xs.toList=[.int k m,.int k' n]) (hy:ys.toList=[.int k m',.int k' n']) (d:Nat) :
  (Op.equalIn (d + 2) t (.agg xs) (.agg ys)).run P w=.ok ((m == m') && (n == n')) w:=by
 unfold flatT at hf
 split at hf
 ·rename_i fs hu
  simp only [Bool.and_eq_true,Bool.not_eq_true'] at hf
  obtain ⟨hs,hf⟩:=hf
  split at hf
  ·rename_i f g hfs
   simp only [Bool.and_eq_true,bne_iff_ne] at hf
   obtain ⟨⟨⟨⟨⟨h1,h2⟩,h3⟩,h4⟩,h5⟩,h6⟩:=hf
   have h5':=Nat.eq_of_beq_eq_true h5
   have h6':=Nat.eq_of_beq_eq_true h6
   obtain ⟨kf,hkf⟩:=isInt_spec h3
   obtain ⟨kg,hkg⟩:=isInt_spec h4
   have hfs':fs=#[f,g]:=by apply Array.ext'; simpa using hfs
   have hx0:xs[0]?=some (.int k m):=by rw [← Array.getElem?_toList,hx]; rfl
   have hx1:xs[1]?=some (.int k' n):=by rw [← Array.getElem?_toList,hx]; rfl
   have hy0:ys[0]?=some (.int k m'):=by rw [← Array.getElem?_toList,hy]; rfl
   have hy1:ys[1]?=some (.int k' n'):=by rw [← Array.getElem?_toList,hy]; rfl
   have p1:=run_part_int (P:=P) (w:=w) hkf hx0
   have p2:=run_part_int (P:=P) (w:=w) hkf hy0
   have p3:=run_part_int (P:=P) (w:=w) hkg hx1
   have p4:=run_part_int (P:=P) (w:=w) hkg hy1
   have e1:(Op.equalIn (d + 1) f.type (.int k m) (.int k m')).run P w=.ok (m == m') w:=run_equalIn_int hkf d k m m'
   have e2:(Op.equalIn (d + 1) g.type (.int k' n) (.int k' n')).run P w=.ok (n == n') w:=run_equalIn_int hkg d k' n n'
   subst hfs'
   unfold Op.equalIn
   simp [run_underlying hu,hs,h1,h2,h5',h6',p1,p2,p3,p4,e1,e2]
   by_cases c1:m=m' <;> by_cases c2:n=n' <;> simp [c1,c2,p3,p4,e2]
  ·cases hf
 ·cases hf
end Go.Sx
namespace Go.Sx
variable {P:Program} {E:Env} {γ:Cx} {M:Mem} {w:World} {tm:Tm} {a:Act} {o:Oper}
theorem binOp_eql_agg (t:TypeId) (x y:Array Value):binOp .eql t (.agg x) (.agg y)=(do pure (.bool (← Op.equal t (.agg x) (.agg y)))):=rfl
theorem binOp_neq_agg (t:TypeId) (x y:Array Value):binOp .neq t (.agg x) (.agg y)=(do pure (.bool (!(← Op.equal t (.agg x) (.agg y))))):=rfl
theorem run_eqGuard_agg {op:BinOp} {t:TypeId} {x y:Operand} {u v:Array Value} (h:P.eqGuardType P.depth t=false):(eqGuard op t x y (.agg u) (.agg v)).run P w=.ok () w:=by
 unfold eqGuard
 split <;> simp [program,Sem.run,h,pure]
theorem op_eqA (hI:Inv E.gx γ M w) (ht:TmR γ tm a.tmps) {op:BinOp} {neg:Bool} {t ty:TypeId} {x y:Operand} {x' y':Opd} {u v:List AV} {r:Bool} (ho:o.op=.binOp op t x y ty) (hx:compOpd x=some x') (hy:compOpd y=some y')
  (hop:(op=.eql∧neg=false)∨(op=.neq∧neg=true)) (hf:flatT P t=true) (hg:P.eqGuardType P.depth t=false) (hvx:evx E tm x'=some (.agg u)) (hvy:evx E tm y'=some (.agg v))
  (hl:u.length=2) (hr:intsEq u v=some r):Runs P E.gx γ M w a o (.bool (if neg then !r else r)) M:=by
 obtain ⟨xs,e1,r1⟩:=(evx_sound hI ht hx hvx).agg_inv
 obtain ⟨ys,e2,r2⟩:=(evx_sound hI ht hy hvy).agg_inv
 obtain ⟨k,m,k',n,m',n',rfl,rfl,rfl⟩:=intsEq_two hr hl
 obtain ⟨p1,p2,hxs,q1,q2⟩:=r1.two
 obtain ⟨p3,p4,hys,q3,q4⟩:=r2.two
 rw [q1.int_inv,q2.int_inv] at hxs
 rw [q3.int_inv,q4.int_inv] at hys
 have hq:(Op.equal t (.agg xs) (.agg ys)).run P w=.ok ((m == m') && (n == n')) w:=run_equal_flat hf hxs hys 9998
 rcases hop with ⟨rfl,rfl⟩ | ⟨rfl,rfl⟩
 ·refine Runs.same hI (v:=.bool ((m == m') && (n == n'))) ?_ (.bool _ _)
  simp only [execOp,ho,e1,e2,binOp_eql_agg]
  simp [run_eqGuard_agg hg,hq]
 ·refine Runs.same hI (v:=.bool !((m == m') && (n == n'))) ?_ (.bool _ _)
  simp only [execOp,ho,e1,e2,binOp_neq_agg]
  simp [run_eqGuard_agg hg,hq]
theorem run_eqGuard_const {op : BinOp} {t : TypeId} {x : Operand} {u v : Value} (h1 : ∀ cs ds, u = .agg cs → v = .agg ds → False) : (eqGuard op t x (.const v) u v).run P w = .ok () w := by
  unfold eqGuard
  split <;> first
    | rfl
    | (simp only [Bool.not_true, Bool.false_eq_true, if_false]
       cases u <;> cases v <;> first | rfl | exact (h1 _ _ rfl rfl).elim | simp [pure])
theorem run_equal_nil {t:TypeId} {u:Value} {b:Bool} {p:Bool} {x:AV} {k:Nat} {y:Operand} (hx:VR γ p x u) (hb:isNilA k x=some b) (hk:nilKind (P.underlying t) y=some k) :
  ∃ v,y=.const v∧(∀ cs ds,u=.agg cs→v=.agg ds→False)∧(∀ d,(Op.equalIn (d + 1) t u v).run P w=.ok b w)∧binOp .eql t u v=(do pure (.bool (← Op.equal t u v)))∧binOp .neq t u v=(do pure (.bool (!(← Op.equal t u v)))):=by
 unfold nilKind at hk
 split at hk <;> (try cases hk) <;> rename_i hu <;> refine ⟨_,rfl,?_,?_,?_,?_⟩ <;>
  cases hx <;> simp only [isNilA,Option.some.injEq,reduceCtorEq] at hb <;> (try subst hb) <;> (try rfl) <;> (try (intro _ _ h; cases h; done)) <;> (try (intro d; simp [Op.equalIn,run_underlying hu]; done))
theorem op_isnil (hI:Inv E.gx γ M w) (ht:TmR γ tm a.tmps) {op:BinOp} {neg:Bool} {t ty:TypeId} {x y:Operand} {x':Opd} {u:AV} {k:Nat} {r:Bool} (ho:o.op=.binOp op t x y ty) (hx:compOpd x=some x')
  (hop:(op=.eql∧neg=false)∨(op=.neq∧neg=true)) (hk:nilKind (P.underlying t) y=some k) (hvx:evx E tm x'=some u) (hr:isNilA k u=some r):Runs P E.gx γ M w a o (.bool (if neg then !r else r)) M:=by
 obtain ⟨v,rfl,h1,h2,h3,h4⟩:=run_equal_nil (w:=w) (evx_sound hI ht hx hvx) hr hk
 have hq:(Op.equal t (a.eval x) v).run P w=.ok r w:=h2 9999
 have hc:a.eval (.const v)=v:=rfl
 rcases hop with ⟨rfl,rfl⟩ | ⟨rfl,rfl⟩
 ·refine Runs.same hI (v:=.bool r) ?_ (.bool _ _)
  simp only [execOp,ho,hc,h3]
  simp [run_eqGuard_const h1,hq]
 ·refine Runs.same hI (v:=.bool !r) ?_ (.bool _ _)
  simp only [execOp,ho,hc,h4]
  simp [run_eqGuard_const h1,hq]
end Go.Sx
namespace Go.Sx
variable {P:Program} {E:Env} {γ:Cx} {M:Mem} {w:World} {tm:Tm} {a:Act} {o:Oper}
theorem op_un (hI:Inv E.gx γ M w) (ht:TmR γ tm a.tmps) {op:UnOp} {t:TypeId} {x:Operand} {x':Opd} {u r:AV} (ho:o.op=.unOp op t x) (hx:compOpd x=some x') (hvx:evx E tm x'=some u) (hr:unA op u=some r):Runs P E.gx γ M w a o r M:=by
 have h:=evx_sound hI ht hx hvx
 unfold unA at hr
 split at hr
 ·have e:=h.bool_inv
  cases hr
  exact Runs.same hI (by simp [execOp,ho,e,Op.unary]) (.bool _ _)
 ·have e:=h.int_inv
  cases hr
  rename_i k n
  exact Runs.same hI (v:=.int k (k.wrap (0 - n))) (by simp [execOp,ho,e,Op.unary,Op.intArith]) (.int _ _ _)
 ·have e:=h.int_inv
  cases hr
  rename_i k n
  exact Runs.same hI (v:=.int k (k.wrap (BitVec.ofInt k.bits (if k.signed then -1 else k.max) ^^^ BitVec.ofInt k.bits n).toNat)) (by simp [execOp,ho,e,Op.unary,Op.intBits]) (.int _ _ _)
 ·cases hr
theorem op_cvi (hI:Inv E.gx γ M w) (ht:TmR γ tm a.tmps) {s d:TypeId} {k j:IntKind} {x:Operand} {x':Opd} {n:Int} {i:IntKind} (ho:o.op=.convert s d x) (hx:compOpd x=some x') (hs:P.underlying s=some (.int j)) (hd:P.underlying d=some (.int k))
  (hvx:evx E tm x'=some (.int i n)):Runs P E.gx γ M w a o (.int k (k.wrap n)) M:=by
 have e:=(evx_sound hI ht hx hvx).int_inv
 exact Runs.same hI (v:=.int k (k.wrap n)) (by simp [execOp,ho,e,convert,run_underlying hs,run_underlying hd,Conv.intToInt]) (.int _ _ _)
theorem op_r2s (hI:Inv E.gx γ M w) (ht:TmR γ tm a.tmps) {s d:TypeId} {j:IntKind} {x:Operand} {x':Opd} {n:Int} {i:IntKind} (ho:o.op=.convert s d x) (hx:compOpd x=some x') (hs:P.underlying s=some (.int j)) (hd:P.underlying d=some .string)
  (hvx:evx E tm x'=some (.int i n)):Runs P E.gx γ M w a o (.str (encRune n)) M:=by
 have e:=(evx_sound hI ht hx hvx).int_inv
 exact Runs.same hI (v:=.string (Utf8.encode n)) (by simp [execOp,ho,e,convert,run_underlying hs,run_underlying hd,Conv.intToString]) (.str _ _ _ rfl)
theorem op_mkI (hI:Inv E.gx γ M w) (ht:TmR γ tm a.tmps) {t:TypeId} {d:TypeDesc} {x:Operand} {x':Opd} {u:AV} (ho:o.op=.makeInterface t x) (hx:compOpd x=some x') (hu:P.underlying t=some d) (hd:∀ ms,d≠.interface ms)
  (hvx:evx E tm x'=some u):Runs P E.gx γ M w a o (.iface t u) M:=by
 refine Runs.same hI (v:=.iface t (a.eval x)) ?_ (.iface _ _ _ _ (evx_sound hI ht hx hvx))
 simp only [execOp,ho,Instr.makeInterface]
 simp [run_underlying hu]
theorem op_mkF (hI:Inv E.gx γ M w) (ht:TmR γ tm a.tmps) {f:Nat} {x y:Array Operand} {x' y':List Opd} {u v:List AV} (ho:o.op=.makeFunc (.func f) x y) (hx:compOpds x.toList=some x') (hy:compOpds y.toList=some y')
  (hvx:evxs E tm x'=some u) (hvy:evxs E tm y'=some v):Runs P E.gx γ M w a o (.fn f u v) M:=by
 have h1:=evxs_sound hI ht hx hvx
 have h2:=evxs_sound hI ht hy hvy
 refine Runs.same hI (v:=.func (.func f) (x.map a.eval) (y.map a.eval)) ?_ (.fn _ _ _ _ _ _ ?_ ?_ ?_ ?_)
 ·simp [execOp,ho,Instr.makeFunc]
 ·simpa using h1.1
 ·simpa using h2.1
 ·simpa using h1.2
 ·simpa using h2.2
theorem op_ext (hI:Inv E.gx γ M w) (ht:TmR γ tm a.tmps) {i:Nat} {x:Operand} {x':Opd} {vs:List AV} {r:AV} (ho:o.op=.extract x i) (hx:compOpd x=some x') (hvx:evx E tm x'=some (.tup vs)) (hr:vs[i]?=some r):Runs P E.gx γ M w a o r M:=by
 obtain ⟨ys,e,h⟩:=(evx_sound hI ht hx hvx).tup_inv
 obtain ⟨v,hv,hrv⟩:=h.get hr
 have hv':ys[i]?=some v:=by rw [← Array.getElem?_toList]; exact hv
 exact Runs.same hI (v:=v) (by simp [execOp,ho,e,Instr.extract,hv']) hrv
theorem op_len (hI:Inv E.gx γ M w) (ht:TmR γ tm a.tmps) {st:Bool} {t:TypeId} {c:Call} {x:Operand} {x':Opd} {u:AV} {n:Nat} (ho:o.op=.call c) (h1:c.callee=.builtin .len) (h2:c.args.toList=[x]) (h3:c.argTypes.toList=[t])
  (hx:compOpd x=some x') (hu:(st=true∧P.underlying t=some .string)∨(st=false∧∃ e,P.underlying t=some (.slice e))) (hvx:evx E tm x'=some u) (hn:lenK st u=some n):Runs P E.gx γ M w a o (.int .i64 n) M:=by
 have h:=evx_sound hI ht hx hvx
 have ha:c.args=#[x]:=by apply Array.ext'; simpa using h2
 have hb:c.argTypes=#[t]:=by apply Array.ext'; simpa using h3
 refine Runs.same hI (v:=.int .i64 n) ?_ (.int _ _ _)
 rcases hu with ⟨rfl,hu⟩ | ⟨rfl,e,hu⟩ <;> generalize hz:a.eval x=z at h <;> cases h <;> simp only [lenK,Option.some.injEq,reduceCtorEq] at hn <;> subst hn <;>
  simp [execOp,ho,resolve,h1,ha,hb,invoke,builtin,Builtin.len_,hz,run_underlying hu,goInt]
 rename_i s h
 rw [← h]
 simp
theorem op_min (hI:Inv E.gx γ M w) (ht:TmR γ tm a.tmps) {c:Call} {x y:Operand} {x' y':Opd} {k k':IntKind} {m n:Int} (ho:o.op=.call c) (h1:c.callee=.builtin .min) (h2:c.args.toList=[x,y])
  (hx:compOpd x=some x') (hy:compOpd y=some y') (hvx:evx E tm x'=some (.int k m)) (hvy:evx E tm y'=some (.int k' n)):Runs P E.gx γ M w a o (.int k (if n < m then n else m)) M:=by
 have e1:=(evx_sound hI ht hx hvx).int_inv
 have e2:=(evx_sound hI ht hy hvy).int_inv
 have ha:c.args=#[x,y]:=by apply Array.ext'; simpa using h2
 exact Runs.same hI (v:=.int k (if n < m then n else m)) (by simp [execOp,ho,resolve,h1,ha,invoke,builtin,Builtin.min_,Builtin.min2,e1,e2]) (.int _ _ _)
theorem natOf_sound {γ:Cx} {p:Bool} {u:AV} {v:Value} {n:Nat} (h:VR γ p u v) (hn:natOf u=some n):∃ k,v=.int k (n:Int):=by
 cases h <;> simp only [natOf,reduceCtorEq] at hn
 rename_i k m
 split at hn
 ·rename_i h0
  cases hn
  exact ⟨k,by rw [Int.toNat_of_nonneg h0]⟩
 ·cases hn
theorem op_ixS (hI:Inv E.gx γ M w) (ht:TmR γ tm a.tmps) {t:TypeId} {x i:Operand} {x' i':Opd} {l:List Nat} {u:AV} {n b:Nat} (ho:o.op=.index t x i) (hx:compOpd x=some x') (hi:compOpd i=some i') (hu:P.underlying t=some .string)
  (hvx:evx E tm x'=some (.str l)) (hvi:evx E tm i'=some u) (hn:natOf u=some n) (hb:l[n]?=some b):Runs P E.gx γ M w a o (.int .u8 b) M:=by
 obtain ⟨s,e,hs⟩:=(evx_sound hI ht hx hvx).str_inv
 obtain ⟨k,e2⟩:=natOf_sound (evx_sound hI ht hi hvi) hn
 have hlt:n < s.size:=by
  have:=(List.getElem?_eq_some_iff.1 hb).1
  rw [← hs] at this
  simpa using this
 have hbv:(s[n]'hlt).toNat=b:=by
  subst hs
  rw [List.getElem?_map] at hb
  simp only [Option.map_eq_some_iff] at hb
  obtain ⟨y,hy,rfl⟩:=hb
  have:=(List.getElem?_eq_some_iff.1 hy).2
  rw [← this]
  rfl
 refine Runs.same hI (v:=.int .u8 (s[n]'hlt).toNat) ?_ (hbv ▸ .int _ _ _)
 simp [execOp,ho,e,e2,Instr.index,asIntOf,run_underlying hu,hlt]
theorem sliceBound_run {y:Nat} {c:BoundsCode} {k:IntKind} {n:Nat} (h:n≤y):(Instr.sliceBound (.int k (n:Int)) y c).run P w=.ok n w:=by
 simp [Instr.sliceBound,asIntOf,h]
theorem bounds_sound {γ:Cx} {isS:Bool} {len cap cap':Nat} {lo hi mx:Option Operand} {lo' hi' mx':Option AV} {l h m:Nat} {e:Operand→Value} (hc:cap≤cap') (hl0:len≤cap)
  (hlo:(lo=none∧lo'=none)∨∃ o v,lo=some o∧lo'=some v∧VR γ false v (e o))
  (hhi:(hi=none∧hi'=none)∨∃ o v,hi=some o∧hi'=some v∧VR γ false v (e o))
  (hmx:(mx=none∧mx'=none)∨∃ o v,mx=some o∧mx'=some v∧VR γ false v (e o)) (hm:mx.isSome=true→hi.isSome=true)
  (hb:bounds len cap lo' hi' mx'=some (l,h,m)) :
  (Instr.sliceBounds isS len cap' (lo.map e) (hi.map e) (mx.map e)).run P w=.ok (l,h,if mx=none then cap' else m) w∧l≤h∧h≤m∧m≤cap∧(mx'=none→m=cap):=by
 simp only [bounds,Option.bind_eq_some_iff] at hb
 obtain ⟨m1,hm1,h1,hh1,l1,hl1,he⟩:=hb
 simp only [Option.some.injEq,Prod.mk.injEq] at he
 obtain ⟨rfl,rfl,rfl⟩:=he
 have key:∀ {x:Option AV} {lim n:Nat} {d:Nat},(match x with | none=>some d | some v=>(natOf v).bind fun k=>if k≤lim then some k else none)=some n→(x=none∧n=d)∨∃ v,x=some v∧natOf v=some n∧n≤lim:=by
  intro x lim n d hx
  cases x with
  | none=>exact .inl ⟨rfl,(Option.some.inj hx).symm⟩
  | some v=>
   simp only [Option.bind_eq_some_iff] at hx
   obtain ⟨k,hk,hx⟩:=hx
   split at hx
   ·cases hx; exact .inr ⟨v,rfl,hk,by assumption⟩
   ·cases hx
 have km:=key hm1
 have kh:=key hh1
 have kl:=key hl1
 rcases hmx with ⟨rfl,rfl⟩ | ⟨om,vm,rfl,rfl,rm⟩
 ·rcases km with ⟨_,rfl⟩ | ⟨v,hv,_⟩
  ·rcases hhi with ⟨rfl,rfl⟩ | ⟨oh,vh,rfl,rfl,rh⟩
   ·rcases kh with ⟨_,rfl⟩ | ⟨v,hv,_⟩
    ·rcases hlo with ⟨rfl,rfl⟩ | ⟨ol,vl,rfl,rfl,rl⟩
     ·rcases kl with ⟨_,rfl⟩ | ⟨v,hv,_⟩
      ·exact ⟨by simp [Instr.sliceBounds],by omega,by omega,by omega,fun _=>rfl⟩
      ·cases hv
     ·rcases kl with ⟨hv,_⟩ | ⟨v,hv,hn,hle⟩
      ·cases hv
      ·cases hv
       obtain ⟨k,ek⟩:=natOf_sound rl hn
       exact ⟨by simp [Instr.sliceBounds,ek,sliceBound_run hle],by omega,by omega,by omega,fun _=>rfl⟩
    ·cases hv
   ·rcases kh with ⟨hv,_⟩ | ⟨v,hv,hn,hle⟩
    ·cases hv
    ·cases hv
     obtain ⟨k,ek⟩:=natOf_sound rh hn
     have sb:∀ c,(Instr.sliceBound (.int k (h1:Int)) cap' c).run P w=.ok h1 w:=fun c=>sliceBound_run (by omega)
     rcases hlo with ⟨rfl,rfl⟩ | ⟨ol,vl,rfl,rfl,rl⟩
     ·rcases kl with ⟨_,rfl⟩ | ⟨v,hv,_⟩
      ·exact ⟨by simp [Instr.sliceBounds,ek,sb],by omega,by omega,by omega,fun _=>rfl⟩
      ·cases hv
     ·rcases kl with ⟨hv,_⟩ | ⟨v,hv,hn2,hle2⟩
      ·cases hv
      ·cases hv
       obtain ⟨k2,ek2⟩:=natOf_sound rl hn2
       exact ⟨by simp [Instr.sliceBounds,ek,ek2,sb,sliceBound_run hle2],by omega,by omega,by omega,fun _=>rfl⟩
  ·cases hv
 ·rcases km with ⟨hv,_⟩ | ⟨v,hv,hnm,hlem⟩
  ·cases hv
  ·cases hv
   obtain ⟨km',ekm⟩:=natOf_sound rm hnm
   have sm:∀ c,(Instr.sliceBound (.int km' (m1:Int)) cap' c).run P w=.ok m1 w:=fun c=>sliceBound_run (by omega)
   rcases hhi with ⟨rfl,rfl⟩ | ⟨oh,vh,rfl,rfl,rh⟩
   ·simp at hm
   ·rcases kh with ⟨hv,_⟩ | ⟨v,hv,hn,hle⟩
    ·cases hv
    ·cases hv
     obtain ⟨k,ek⟩:=natOf_sound rh hn
     have sb:∀ c,(Instr.sliceBound (.int k (h1:Int)) m1 c).run P w=.ok h1 w:=fun c=>sliceBound_run (by omega)
     rcases hlo with ⟨rfl,rfl⟩ | ⟨ol,vl,rfl,rfl,rl⟩
     ·rcases kl with ⟨_,rfl⟩ | ⟨v,hv,_⟩
      ·exact ⟨by simp [Instr.sliceBounds,ekm,ek,sm,sb],by omega,by omega,by omega,fun h=>by cases h⟩
      ·cases hv
     ·rcases kl with ⟨hv,_⟩ | ⟨v,hv,hn2,hle2⟩
      ·cases hv
      ·cases hv
       obtain ⟨k2,ek2⟩:=natOf_sound rl hn2
       exact ⟨by simp [Instr.sliceBounds,ekm,ek,ek2,sm,sb,sliceBound_run hle2],by omega,by omega,by omega,fun h=>by cases h⟩
theorem op_slcS (hI:Inv E.gx γ M w) (ht:TmR γ tm a.tmps) {t:TypeId} {x:Operand} {x':Opd} {lo hi:Option Operand} {lo' hi':Option Opd} {lv hv:Option AV} {l:List Nat} {r:AV} (ho:o.op=.slice t x lo hi none) (hx:compOpd x=some x') (hlo:compO lo=some lo') (hhi:compO hi=some hi')
  (hu:P.underlying t=some .string) (hvx:evx E tm x'=some (.str l)) (hvl:evo E tm lo'=some lv) (hvh:evo E tm hi'=some hv) (hr:slcSt l lv hv=some r):Runs P E.gx γ M w a o r M:=by
 obtain ⟨s,e,hs⟩:=(evx_sound hI ht hx hvx).str_inv
 simp only [slcSt,Option.map_eq_some_iff] at hr
 obtain ⟨⟨p,q,m⟩,hb,rfl⟩:=hr
 have hsz:s.size=l.length:=by rw [← hs]; simp
 obtain ⟨h1,h2,h3,h4,h5⟩:=bounds_sound (P:=P) (w:=w) (isS:=false) (Nat.le_refl _) (Nat.le_refl _) (evo_sound hI ht hlo hvl) (evo_sound hI ht hhi hvh) (mx:=none) (mx':=none) (.inl ⟨rfl,rfl⟩) (by simp) hb
 rw [← hsz] at h1
 refine Runs.same hI (v:=.string (s.extract p q)) ?_ (.str _ _ _ ?_)
 ·simp only [Option.map_none,if_true] at h1
  simp [execOp,ho,e,Instr.sliceAt,Instr.slice,run_underlying hu,h1]
 ·rw [← hs]
  simp [ByteArray.data_extract,List.map_take,List.map_drop]
end Go.Sx
namespace Go.Sx
variable {P:Program} {E:Env} {γ:Cx} {M:Mem} {w:World} {tm:Tm} {a:Act} {o:Oper}
def Holds (w:World) (v:Value) (n esz:Nat) (vs:List Value):Prop:=
 vs.length=n * esz∧((∃ s,v=.string s∧esz=1∧n=s.size∧vs=Go.byteCells s)∨(v=.slice none 0 0∧n=0) ∨
  ∃ g o c,v=.slice (some ⟨g,o,none⟩) n c∧∀ j x,vs[j]?=some x→w.cell? ⟨g,o + j,none⟩=some x)
theorem VRs.byteCells {γ:Cx} {p:Bool} {s:ByteArray} {l:List Nat} (h:s.data.toList.map UInt8.toNat=l):VRs γ p (Sx.byteCells l) (Go.byteCells s):=by
 subst h
 unfold Sx.byteCells Go.byteCells
 refine ⟨by simp,fun i x v hx hv=>?_⟩
 simp only [List.map_map,List.getElem?_map,Option.map_eq_some_iff] at hx hv
 obtain ⟨b,hb,rfl⟩:=hx
 obtain ⟨b',hb',rfl⟩:=hv
 rw [hb] at hb'
 cases hb'
 exact .int _ _ _
theorem elems_sound (hI:Inv E.gx γ M w) {u:AV} {v:Value} {esz n:Nat} {ys:List AV} (h:VR γ false u v) (he:elems M esz u=some ys) (hn:lenA u=some n):∃ vs,VRs γ false ys vs∧Holds w v n esz vs:=by
 cases u with
 | nils=>
  cases he; cases hn
  exact ⟨[],VRs.nil _ _,by simp,.inr (.inl ⟨h.nils_inv,rfl⟩)⟩
 | str l=>
  simp only [elems] at he
  split at he
  ·rename_i e
   cases he; cases hn
   obtain ⟨s,rfl,hs⟩:=h.str_inv
   have hsz:s.size=l.length:=by rw [← hs]; simp
   exact ⟨_,VRs.byteCells hs,by rw [Go.byteCells_length,e,hsz]; omega,.inl ⟨s,rfl,e,hsz.symm,rfl⟩⟩
  ·cases he
 | sl t e m cs=>
  simp only [elems] at he
  split at he
  ·rename_i hl
   cases he; cases hn
   obtain ⟨g,o,c,vs,rfl,hv,hi,_⟩:=h.sl_inv
   have hl':=Nat.eq_of_beq_eq_true hl
   exact ⟨vs,hv.of_pure,by rw [← hv.1,hl'],.inr (.inr ⟨g,o,c,rfl,fun j x hx=>hI.imm g _ x (hi j x hx)⟩)⟩
  ·cases he
 | ms b off m c=>
  simp only [elems] at he
  split at he
  ·rename_i l hb
   split at he
   ·rename_i hl
    have hl':=Nat.le_of_ble_eq_true hl
    cases he; cases hn
    obtain ⟨g,c',rfl,hρ,h1,h2,_⟩:=h.ms_inv
    obtain ⟨_,_,arr,el,fz,hh,hu,hla,hv,ho⟩:=hI.box b _ g hb hρ
    refine ⟨((arr.toList.take l.length).drop off).take (n * esz),(hv.drop off).take _,by simp; omega,.inr (.inr ⟨g,off,c',rfl,fun j x hx=>?_⟩)⟩
    rw [List.getElem?_take] at hx
    split at hx
    ·rw [List.getElem?_drop,List.getElem?_take] at hx
     split at hx
     ·rw [cell_at hh,← Array.getElem?_toList]; exact hx
     ·cases hx
    ·cases hx
   ·cases he
  ·cases he
 | _=>cases he
theorem bytesOf_sound {γ:Cx}:∀ {cs:List AV} {l:List Nat} {vs:List Value},bytesOf cs=some l→VRs γ false cs vs→∃ xs:List Int,vs=xs.map (Value.int .u8)∧xs.length=l.length∧(xs.map fun n=>(UInt8.ofNat n.toNat).toNat)=l
 | [],l,vs,h,hv=>by cases h; exact ⟨[],by simp [hv.nil_inv],rfl,rfl⟩
 | c :: r,l,vs,h,hv=>by
  obtain ⟨v,vr,rfl,h1,h2⟩:=hv.cons_inv
  cases c <;> try (simp only [bytesOf,reduceCtorEq] at h; done)
  rename_i k n
  cases k <;> try (simp only [bytesOf,reduceCtorEq] at h; done)
  simp only [bytesOf] at h
  split at h
  ·rename_i hn
   simp only [Option.map_eq_some_iff] at h
   obtain ⟨l',hl',rfl⟩:=h
   obtain ⟨xs,rfl,hlen,hxs⟩:=bytesOf_sound hl' h2
   refine ⟨n :: xs,by simp [h1.int_inv],by simp [hlen],?_⟩
   simp only [List.map_cons,hxs]
   congr 1
   simp
   omega
  ·cases h
theorem op_b2s (hI:Inv E.gx γ M w) (ht:TmR γ tm a.tmps) {s d e:TypeId} {x:Operand} {x':Opd} {u:AV} {cs:List AV} {l:List Nat} (ho:o.op=.convert s d x) (hx:compOpd x=some x') (hs:P.underlying s=some (.slice e)) (hd:P.underlying d=some .string)
  (he:P.underlying e=some (.int .u8)) (hvx:evx E tm x'=some u) (hc:elemsS M u=some cs) (hb:bytesOf cs=some l):Runs P E.gx γ M w a o (.str l) M:=by
 have h:=evx_sound hI ht hx hvx
 have hn:∃ n,lenA u=some n:=by
  cases u <;> first | (cases hc; done) | exact ⟨_,rfl⟩
 obtain ⟨n,hn⟩:=hn
 have hc':elems M 1 u=some cs:=by cases u <;> first | exact hc | cases hc
 obtain ⟨vs,hv,hlen,hh⟩:=elems_sound hI h hc' hn
 obtain ⟨xs,rfl,hxl,hxs⟩:=bytesOf_sound hb hv
 rcases hh with ⟨s',e1,_⟩ | ⟨e1,e2⟩ | ⟨g,off,c,e1,hcell⟩
 ·rw [e1] at h
  cases h with
  | str _ l s hs=>cases hc
  | any _ v=>cases hn
 ·subst e2
  have:xs=[]:=List.eq_nil_of_length_eq_zero (by simpa using hlen)
  subst this
  have hl:l=[]:=by rw [← hxs]; rfl
  subst hl
  refine Runs.same hI (v:=.string ByteArray.empty) ?_ (.str _ _ _ rfl)
  simp [execOp,ho,e1,run_convert_bytes_nil w s e hs he 0 0 d hd]
 ·have hl:xs.length=n:=by simpa using hlen
  refine Runs.same hI (v:=.string (strOfNums xs)) ?_ (.str _ _ _ ?_)
  ·have:=run_convert_bytes_arg w s e hs he g off n c xs hl (fun i hi=>by
    have hi':i < xs.length:=by omega
    have:=hcell i (.int .u8 xs[i]) (by simp [List.getElem?_eq_getElem hi'])
    rw [this]
    simp [List.getD,List.getElem?_eq_getElem hi']) d hd
   simp [execOp,ho,e1,this]
  ·rw [strOfNums_data,List.map_map]
   exact hxs
theorem runesOf_sound {γ:Cx}:∀ {cs:List AV} {l:List Int} {vs:List Value},runesOf cs=some l→VRs γ false cs vs→vs=l.map (Value.int .i32)
 | [],l,vs,h,hv=>by cases h; simp [hv.nil_inv]
 | c :: r,l,vs,h,hv=>by
  obtain ⟨v,vr,rfl,h1,h2⟩:=hv.cons_inv
  cases c <;> try (simp only [runesOf,reduceCtorEq] at h; done)
  rename_i k n
  cases k <;> try (simp only [runesOf,reduceCtorEq] at h; done)
  simp only [runesOf] at h
  simp only [Option.map_eq_some_iff] at h
  obtain ⟨l',hl',rfl⟩:=h
  simp [h1.int_inv,runesOf_sound hl' h2]
theorem runesBytes_data:∀ (ns:List Int) (s:ByteArray),(ns.foldl (fun r n=>r ++ Utf8.encode n) s).data.toList.map UInt8.toNat=s.data.toList.map UInt8.toNat ++ ns.flatMap encRune
 | [],s=>by simp
 | n :: ns,s=>by
  rw [List.foldl_cons,runesBytes_data ns]
  simp [ByteArray.data_append,encRune,List.append_assoc]
theorem op_rs2s (hI:Inv E.gx γ M w) (ht:TmR γ tm a.tmps) {s d e:TypeId} {x:Operand} {x':Opd} {u:AV} {cs:List AV} {l:List Int} (ho:o.op=.convert s d x) (hx:compOpd x=some x') (hs:P.underlying s=some (.slice e)) (hd:P.underlying d=some .string)
  (he:P.underlying e=some (.int .i32)) (hvx:evx E tm x'=some u) (hc:elemsS M u=some cs) (hb:runesOf cs=some l):Runs P E.gx γ M w a o (.str (l.flatMap encRune)) M:=by
 have h:=evx_sound hI ht hx hvx
 have hn:∃ n,lenA u=some n:=by
  cases u <;> first | (cases hc; done) | exact ⟨_,rfl⟩
 obtain ⟨n,hn⟩:=hn
 have hc':elems M 1 u=some cs:=by cases u <;> first | exact hc | cases hc
 obtain ⟨vs,hv,hlen,hh⟩:=elems_sound hI h hc' hn
 have hvs:=runesOf_sound hb hv
 subst hvs
 rcases hh with ⟨s',e1,_⟩ | ⟨e1,e2⟩ | ⟨g,off,c,e1,hcell⟩
 ·rw [e1] at h
  cases h with
  | str _ l s hs=>cases hc
  | any _ v=>cases hn
 ·subst e2
  have:l=[]:=List.eq_nil_of_length_eq_zero (by simpa using hlen)
  subst this
  refine Runs.same hI (v:=.string ByteArray.empty) ?_ (.str _ _ _ rfl)
  simp [execOp,ho,e1,run_convert_runes_string w s d e _ 0 0 hs he hd,Conv.runesToString]
 ·have hl:l.length=n:=by simpa using hlen
  refine Runs.same hI (v:=.string (runesBytes l)) ?_ (.str _ _ _ ?_)
  ·have hload:(loadCells ⟨g,off,none⟩ n).run P w=.ok (l.map (Value.int .i32)).toArray w:=by
    have:=run_loadCells_list (P:=P) w ⟨g,off,none⟩ (l.map (Value.int .i32)) (fun j v hj=>by rw [Addr.add_lit]; exact hcell j v hj)
    rwa [List.length_map,hl] at this
   simp [execOp,ho,e1,run_convert_runes_string w s d e _ n c hs he hd,run_runesToString w ⟨g,off,none⟩ n c l hload]
  ·unfold runesBytes
   rw [runesBytes_data]
   rfl
end Go.Sx
namespace Go.Sx
variable {P:Program} {E:Env} {γ:Cx} {M:Mem} {w:World} {tm:Tm} {a:Act} {o:Oper}
theorem VR.newsl {G:(Nat→Option (List AV)) × (Nat→Loop→Prop)} (hI:Inv G γ M w) {p:Bool} {t n c:Nat} {cells:List AV} {vs:List Value} {arr:Array Value} (hv:VRs γ true cells vs) (ha:∀ (i:Nat) (x:Value),vs[i]?=some x→arr[i]?=some x)
  (hn:n≤c) (h1:t=1→c=n) (h2:t < 2):VR (γ.imm w.heap.size vs.length arr) p (.sl t 0 n cells) (.slice (some ⟨w.heap.size,0,none⟩) n c):=by
 have hm:=hv.mono (Cx.imm_le hI vs.length arr)
 refine .sl p t 0 n cells vs _ 0 c hm.1 hm.2 (fun i x hx=>?_) hn h1 fun k hk=>by omega
 have hlt:=(List.getElem?_eq_some_iff.1 hx).1
 simp only [Cx.imm,Nat.zero_add,if_true]
 rw [if_pos hlt]
 exact ha i x hx
theorem bytesCells_at (e:TypeId) (s:ByteArray) (i:Nat) (x:Value) (h:(Go.byteCells s)[i]?=some x):(Lib.bytesCells w e s)[i]?=some x:=by
 have hlt:i < s.size:=by
  have:=(List.getElem?_eq_some_iff.1 h).1
  rwa [Go.byteCells_length] at this
 unfold Lib.bytesCells
 rw [Array.getElem?_append_left (by simp; exact hlt)]
 unfold Go.byteCells at h
 rw [← Array.getElem?_toList]
 simpa using h
theorem op_s2b (hI:Inv E.gx γ M w) (ht:TmR γ tm a.tmps) {s d e:TypeId} {x:Operand} {x':Opd} {l:List Nat} (ho:o.op=.convert s d x) (hx:compOpd x=some x') (hs:P.underlying s=some .string) (hd:P.underlying d=some (.slice e))
  (he:P.underlying e=some (.int .u8)) (hvx:evx E tm x'=some (.str l)):Runs P E.gx γ M w a o (.sl 0 0 l.length (byteCells l)) M:=by
 obtain ⟨u,e1,hu⟩:=(evx_sound hI ht hx hvx).str_inv
 have hsz:u.size=l.length:=by rw [← hu]; simp
 have hr:=Lib.run_convert_string_bytes w s d e u hs hd he
 have hv:VRs γ true (byteCells l) (Go.byteCells u):=VRs.byteCells hu
 have hr':(execOp a.eval o).run P w=.ok (.value (.slice (some ⟨w.heap.size,0,none⟩) u.size (grownCap w u.size 0 e))) (Lib.bytesWorld w e u):=by simp [execOp,ho,e1,hr]
 refine ⟨_,_,_,.inl hr',?_,Nx.imm hI (Go.byteCells u).length (Lib.bytesCells w e u) e _ _ (fun g hg=>Lib.bytesWorld_at_old w e u g hg) (Lib.bytesWorld_at_new w e u) (by simp [Lib.bytesWorld,World.freeze,World.alloc,World.drew,-World.alloc_eq,-World.drew_eq]) rfl rfl rfl⟩
 rw [← hsz]
 exact VR.newsl hI hv (bytesCells_at e u) (grownCap_ge w u.size 0 e) (by simp) (by omega)
theorem sizeT_spec {t:TypeId} {n:Nat} (h:sizeT P t=some n):∃ i,P.info? t=some i∧i.size=n:=by
 simp only [sizeT,Option.map_eq_some_iff] at h
 exact h
theorem run_sizeOf' {t:TypeId} {n:Nat} (h:sizeT P t=some n):(sizeOf t).run P w=.ok n w:=by
 obtain ⟨i,hi,rfl⟩:=sizeT_spec h
 simp [sizeOf,typeInfo,hi]
theorem run_isAgg' {t:TypeId} {g:Bool} (h:aggT P t=some g):(isAgg t).run P w=.ok g w:=by
 simp only [aggT,Option.map_eq_some_iff] at h
 obtain ⟨d,hd,rfl⟩:=h
 simp only [isAgg,Sem.run_bind,run_underlying hd,Result.andThen_ok]
 cases d <;> rfl
theorem zeroT_spec {t:TypeId} {z:List AV} (h:zeroT P t=some z):∃ i zv,P.info? t=some i∧i.zero=some zv∧ofCells zv.cells.toList=some z:=by
 simp only [zeroT,Option.bind_eq_some_iff] at h
 obtain ⟨i,hi,zv,hz,h⟩:=h
 exact ⟨i,zv,hi,hz,h⟩
theorem run_zeroValue' {t:TypeId} {i:TypeInfo} {zv:Value} (hi:P.info? t=some i) (hz:i.zero=some zv):(zeroValue t).run P w=.ok zv w:=by
 simp [zeroValue,typeInfo,hi,hz]
theorem Nx.newBox (hI:Inv E.gx γ M w) {l:List AV} {arr:Array Value} {el:TypeId} (hv:VRs γ false l arr.toList) (ho:l.all oneA=true) :
  Nx E.gx γ M w (γ.addB M.nb w.heap.size none) (M.new (.cells l)) (w.alloc (.cells arr el)):=by
 refine Nx.addB hI (.cells l) (.cells arr el) none _ (fun γ' hle hI' hs=>?_) rfl rfl rfl rfl
 refine ⟨hle.B ▸ hI.base,hI',arr,el,(0,0),by simp [World.alloc,-World.alloc_eq],unmarked_zero _,by rw [hv.1]; simp,?_,ho,fun c z S h=>by rw [hs] at h; cases h⟩
 rw [List.take_of_length_le (by rw [hv.1]; exact Nat.le_refl _)]
 exact hv.mono hle
theorem VR.newptr {γ:Cx} {b g:Nat} {s:Option (Nat × Nat × Nat)}:VR (γ.addB b g s) false (.ptr b 0) (.pointer (some ⟨g,0,none⟩)):=.ptr b 0 g (by simp [Cx.addB])
theorem op_alloc (hI:Inv E.gx γ M w) {e:TypeId} {z:List AV} (ho:o.op=.alloc e) (hz:zeroT P e=some z):Runs P E.gx γ M w a o (.ptr M.nb 0) (M.new (.cells z)):=by
 obtain ⟨i,zv,hi,hzv,hc⟩:=zeroT_spec hz
 refine ⟨_,.pointer (some ⟨w.heap.size,0,none⟩),w.alloc (.cells zv.cells e),.inl ?_,VR.newptr,Nx.newBox hI (ofCells_sound hc) (ofCells_one hc).1⟩
 simp [execOp,ho,Instr.alloc,run_zeroValue' hi hzv,newVar,newRow]
theorem op_box (hI:Inv E.gx γ M w) (ht:TmR γ tm a.tmps) {e:TypeId} {x:Operand} {x':Opd} {u:AV} (ho:o.op=.box e x) (hx:compOpd x=some x') (hvx:evx E tm x'=some u) (h1:u.cells.all oneA=true) :
  Runs P E.gx γ M w a o (.ptr M.nb 0) (M.new (.cells u.cells)):=by
 have h:=(evx_sound hI ht hx hvx).cells1 h1
 refine ⟨_,.pointer (some ⟨w.heap.size,0,none⟩),w.alloc (.cells (a.eval x).cells e),.inl ?_,VR.newptr,Nx.newBox hI h h1⟩
 simp [execOp,ho,Instr.box,newVar,newRow]
theorem op_nilck (hI:Inv E.gx γ M w) (ht:TmR γ tm a.tmps) {x:Operand} {x':Opd} {u:AV} (ho:o.op=.nilCheck x) (hx:compOpd x=some x') (hvx:evx E tm x'=some u)
  (hu:(∃ b q,u=.ptr b q)∨(∃ cs,u=.cp cs)∨(∃ f y z,u=.fn f y z)∨∃ t z,u=.iface t z):Runs P E.gx γ M w a o u M:=by
 have h:=evx_sound hI ht hx hvx
 refine Runs.same hI (v:=a.eval x) ?_ h
 simp only [execOp,ho]
 rcases hu with ⟨b,q,rfl⟩ | ⟨cs,rfl⟩ | ⟨f,y,z,rfl⟩ | ⟨t,z,rfl⟩
 ·obtain ⟨g,e,_⟩:=h.ptr_inv; rw [e]; rfl
 ·obtain ⟨g,q,vs,e,_⟩:=h.cp_inv; rw [e]; rfl
 ·generalize a.eval x=v at h ⊢; cases h; rfl
 ·generalize a.eval x=v at h ⊢; cases h; rfl
theorem cells_box (hI:Inv E.gx γ M w) {b off g:Nat} {l:List AV} (hb:M.get b=some (.cells l)) (hρ:γ.ρ b=some g) :
  ∃ vs,VRs γ false (l.drop off) vs∧∀ i x,vs[i]?=some x→w.cell? ⟨g,off + i,none⟩=some x:=by
 obtain ⟨_,_,arr,el,fz,hh,hu,hla,hv,ho,_⟩:=hI.box b _ g hb hρ
 refine ⟨(arr.toList.take l.length).drop off,hv.drop off,fun i x hx=>?_⟩
 rw [List.getElem?_drop,List.getElem?_take] at hx
 split at hx
 ·rw [cell_at hh,← Array.getElem?_toList]; exact hx
 ·cases hx
theorem op_ldA (hI:Inv E.gx γ M w) (ht:TmR γ tm a.tmps) {t:TypeId} {x:Operand} {x':Opd} {n:Nat} {cs:List AV} {u:AV} (ho:o.op=.load t x) (hx:compOpd x=some x') (hg:aggT P t=some true) (hs:sizeT P t=some n) (hvx:evx E tm x'=some u)
  (hu:(∃ b off l,u=.ptr b off∧M.get b=some (.cells l)∧off + n≤l.length∧cs=(l.drop off).take n)∨∃ ds,u=.cp ds∧n≤ds.length∧cs=ds.take n):Runs P E.gx γ M w a o (.agg cs) M:=by
 have h:=evx_sound hI ht hx hvx
 have key:∀ (g off:Nat) (ds:List AV) (vs:List Value),a.eval x=.pointer (some ⟨g,off,none⟩)→VRs γ false ds vs→(∀ i y,vs[i]?=some y→w.cell? ⟨g,off + i,none⟩=some y)→n≤ds.length→cs=ds.take n→Runs P E.gx γ M w a o (.agg cs) M:=by
  intro g off ds vs e hv hc hn hcs
  have hl:(vs.take n).length=n:=by have:=hv.1; simp; omega
  have hr:(loadCells ⟨g,off,none⟩ n).run P w=.ok (vs.take n).toArray w:=by
   have:=run_loadCells_list (P:=P) w ⟨g,off,none⟩ (vs.take n) (fun j v hj=>by
    rw [Addr.add_lit]
    rw [List.getElem?_take] at hj
    split at hj
    ·exact hc j v hj
    ·cases hj)
   rwa [hl] at this
  refine Runs.same hI (v:=.agg (vs.take n).toArray) ?_ (VR.mkagg (by rw [hcs]; simpa using hv.take n))
  simp [execOp,ho,e,Instr.loadAt,Instr.sureAddr,loadVar,run_isAgg' hg,run_sizeOf' hs,hr]
 rcases hu with ⟨b,off,l,rfl,hb,hn,hcs⟩ | ⟨ds,rfl,hn,hcs⟩
 ·obtain ⟨g,e,hρ⟩:=h.ptr_inv
  obtain ⟨vs,hv,hc⟩:=cells_box hI (off:=off) hb hρ
  exact key g off _ vs e hv hc (by simp; omega) hcs
 ·obtain ⟨g,q,vs,e,hv,hi⟩:=h.cp_inv
  exact key g q ds vs e hv.of_pure (fun i y hy=>hI.imm g _ y (hi i y hy)) hn hcs
theorem op_ld1 (hI:Inv E.gx γ M w) (ht:TmR γ tm a.tmps) {t:TypeId} {x:Operand} {x':Opd} {r u:AV} (ho:o.op=.load t x) (hx:compOpd x=some x') (hg:aggT P t=some false) (hvx:evx E tm x'=some u)
  (hu:(∃ b off l,u=.ptr b off∧M.get b=some (.cells l)∧l[off]?=some r)∨∃ ds,u=.cp (r :: ds)):Runs P E.gx γ M w a o r M:=by
 have h:=evx_sound hI ht hx hvx
 have key:∀ (g off:Nat) (v:Value),a.eval x=.pointer (some ⟨g,off,none⟩)→VR γ false r v→w.cell? ⟨g,off,none⟩=some v→Runs P E.gx γ M w a o r M:=by
  intro g off v e hv hc
  refine Runs.same hI (v:=v) ?_ hv
  simp [execOp,ho,e,Instr.loadAt,Instr.sureAddr,loadVar,run_isAgg' hg,run_load,hc]
 rcases hu with ⟨b,off,l,rfl,hb,hr⟩ | ⟨ds,rfl⟩
 ·obtain ⟨g,e,hρ⟩:=h.ptr_inv
  obtain ⟨vs,hv,hc⟩:=cells_box hI (off:=off) hb hρ
  obtain ⟨v,hv0,hrv⟩:=hv.get (i:=0) (a:=r) (by simpa [List.getElem?_drop] using hr)
  exact key g off v e hrv (by simpa using hc 0 v hv0)
 ·obtain ⟨g,q,vs,e,hv,hi⟩:=h.cp_inv
  obtain ⟨v,hv0,hrv⟩:=hv.get (i:=0) (a:=r) rfl
  exact key g q v e hrv.of_pure (by simpa using hI.imm g _ v (hi 0 v hv0))
end Go.Sx
