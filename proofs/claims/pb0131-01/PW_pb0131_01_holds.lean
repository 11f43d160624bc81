import PyProof.Rows.All
import Wide.All
import OpenK.AllK
import KE.KPar
import KE.KLam
import KE.KRevSl
import Wide.FinOn
import Open.Tops
import Wide.Once
import PyProof.ExcBaseAll.Exception
import PyProof.ExcClass3
import PyProof.ExcInit
import Lean
import PySem.Challenge.RW_pb0131_01
open PySem PySem.W PySem.Calls PyProof.Rows
set_option Elab.async false
set_option linter.unusedVariables false
set_option linter.unusedSectionVars false
set_option maxRecDepth 100000
set_option maxHeartbeats 0
set_option genSizeOfSpec false
set_option genInjectivity false
namespace Mine
set_option backward.match.sparseCases false
section
variable{M:Model}{α β:Type}
theorem uF(Γ:Ctx)(K:α→Sem β)(H:Value→Sem β)(gd:Bool→Bool)(lv:List Value→List Value)(Q:β→Pos→Shared→Prop)(E:Value→Pos→Shared→Prop)(m:Sem α):
  ∀(p:Pos) (s:Shared),Sem.wp M Γ (m.wrap K H gd lv) Q E p s↔Sem.wp M Γ m (fun a p s=>Sem.wp M Γ (K a) Q E p s) (fun e p s=>Sem.wp M Γ (H e) Q E p s) p s:=by
 induction m with
 |pure|raise|unsupported|finish|register|yield|fork|await=>exact fun _ _=>Iff.rfl
 |rule _ _ ih|point _ _ ih=>exact fun p s=>ih () p s
 |«at» q _ ih=>exact fun _ s=>ih () q s
 |load _ _ _ ih=>exact fun p s=>exists_congr fun o=>and_congr_right fun _=>ih o p s
 |update _ _ _ _ ih=>exact fun p _=>and_congr_right fun _=>ih () p _
 |alloc _ _ ih|loadIfAlive _ _ ih|fresh _ ih|ask _ ih|os _ _ _ ih|handled _ _ ih|newGen _ _ ih|stack _ ih|thread _ ih=>exact fun p _=>ih _ p _
 |choose _ _ _ ih=>exact fun p _=>and_congr_right fun _=>ih _ p _
 |call _ _ _ _ _ ih|resume _ _ _ _ ih=>exact fun p _=>exists_congr fun r=>exists_congr fun s'=>and_congr_right fun _=>ih r p s'
 |genState _ _ ih=>exact fun p s=>exists_congr fun st=>and_congr_right fun _=>ih _ p s
theorem yQ(Γ:Ctx)(m:Sem α): ∀(p:Pos) (s:Shared),Sem.wp M Γ m (fun _ _ _=>False) (fun _ _ _=>False) p s→False:=by
 induction m with
 |pure|raise|unsupported|finish|register|yield|fork|await=>exact fun _ _ h=>h
 |rule _ _ ih|point _ _ ih=>exact fun p s h=>ih () p s h
 |«at» q _ ih=>exact fun _ s h=>ih () q s h
 |load _ _ _ ih|genState _ _ ih=>exact fun p s h=>h.elim fun o h=>ih _ p s h.2
 |update _ _ _ _ ih|choose _ _ _ ih=>exact fun p _ h=>ih _ p _ h.2
 |alloc _ _ ih|loadIfAlive _ _ ih|fresh _ ih|ask _ ih|os _ _ _ ih|handled _ _ ih|newGen _ _ ih|stack _ ih|thread _ ih=>exact fun p _ h=>ih _ p _ h
 |call _ _ _ _ _ ih|resume _ _ _ _ ih=>exact fun p _ h=>h.elim fun r h=>h.elim fun s' h=>ih r p s' h.2
noncomputable def aG(P:α→Prop):Sem α→Prop
 | .pure a=>P a
 | .raise _| .unsupported _| .finish _| .register .. | .yield .. | .fork .. | .await .. =>True
 | .rule _ k=>∀x,aG P (k x)
 | .at _ k=>∀x,aG P (k x)
 | .load _ _ k=>∀x,aG P (k x)
 | .update _ _ _ k=>∀x,aG P (k x)
 | .alloc _ k=>∀x,aG P (k x)
 | .loadIfAlive _ k=>∀x,aG P (k x)
 | .point _ k=>∀x,aG P (k x)
 | .fresh k=>∀x,aG P (k x)
 | .ask k=>∀x,aG P (k x)
 | .choose _ _ k=>∀x,aG P (k x)
 | .os _ _ k=>∀x,aG P (k x)
 | .call _ _ _ _ k=>∀x,aG P (k x)
 | .handled _ k=>∀x,aG P (k x)
 | .newGen _ k=>∀x,aG P (k x)
 | .genState _ k=>∀x,aG P (k x)
 | .resume _ _ _ k=>∀x,aG P (k x)
 | .stack k=>∀x,aG P (k x)
 | .thread k=>∀x,aG P (k x)
theorem aG.bind{P:β→Prop}(m:Sem α)(f:α→Sem β)(h: ∀a,aG P (f a)):aG P (m>>=f):=by
 show aG P (m.bind f)
 induction m with
 |pure a=>exact h a
 |raise|unsupported|finish|register|yield|fork|await=>trivial
 |rule _ _ ih|«at» _ _ ih|load _ _ _ ih|update _ _ _ _ ih|alloc _ _ ih|loadIfAlive _ _ ih|point _ _ ih|fresh _ ih|ask _ ih|choose _ _ _ ih|os _ _ _ ih|call _ _ _ _ _ ih|handled _ _ ih|newGen _ _ ih|genState _ _ ih|resume _ _ _ _ ih|stack _ ih|thread _ ih=>exact fun x=>ih x
theorem aG.keep{P:α→Prop}(vs:List Value)(m:Sem α)(h:aG P m):aG P (m.keep vs):=by
 induction m with
 |pure a=>exact h
 |raise|unsupported|finish|register|yield|fork|await=>trivial
 |rule _ _ ih|«at» _ _ ih|load _ _ _ ih|update _ _ _ _ ih|alloc _ _ ih|loadIfAlive _ _ ih|point _ _ ih|fresh _ ih|ask _ ih|choose _ _ _ ih|os _ _ _ ih|call _ _ _ _ _ ih|handled _ _ ih|newGen _ _ ih|genState _ _ ih|resume _ _ _ _ ih|stack _ ih|thread _ ih=>exact fun x=>ih x (h x)
theorem vA{P:α→Prop}(Γ:Ctx)(m:Sem α): ∀{Q:α→Pos→Shared→Prop} {E:Value→Pos→Shared→Prop} {p:Pos} {s:Shared},aG P m→Sem.wp M Γ m Q E p s→Sem.wp M Γ m (fun a p s=>P a∧Q a p s) E p s:=by
 induction m with
 |pure=>exact fun l h=>⟨l,h⟩
 |raise|unsupported|finish|register|yield|fork|await=>exact fun _ h=>h
 |rule _ _ ih|«at» _ _ ih|point _ _ ih=>exact fun l h=>ih () (l _) h
 |load _ _ _ ih|genState _ _ ih=>exact fun l h=>h.elim fun o h=>⟨o,h.1,ih _ (l _) h.2⟩
 |update _ _ _ _ ih|choose _ _ _ ih=>exact fun l h=>⟨h.1,ih _ (l _) h.2⟩
 |alloc _ _ ih|loadIfAlive _ _ ih|fresh _ ih|ask _ ih|os _ _ _ ih|handled _ _ ih|newGen _ _ ih|stack _ ih|thread _ ih=>exact fun l h=>ih _ (l _) h
 |call _ _ _ _ _ ih|resume _ _ _ _ ih=>exact fun l h=>h.elim fun r h=>h.elim fun s' h=>⟨r,s',h.1,ih r (l _) h.2⟩
end
theorem ti{t:Thread}(h:through t=true):t.stack= []∧∃f,t.cur= .pure (.done f):=by
 obtain ⟨cur,code,pos,stack⟩:=t;obtain ⟨h1,h2⟩:=Bool.and_eq_true_iff.mp h;refine ⟨List.isEmpty_iff.mp h1, ?_⟩;clear h h1
 cases cur with
 |pure x=>
  cases x with
  |done f=>exact ⟨f,rfl⟩
  |_=>exact Bool.noConfusion h2
 |_=>exact Bool.noConfusion h2
section
variable{p:Program}{w:World}
inductive oI(p:Program)(w:World)(o:Outcome)(s₁:Shared)(s:Shared)(t:Thread):Prop where
 |mk (k:Nat) (h1:PySem.runN (denote table) p w k s t= .halted o s₁) (h2: ∀j s₂ t₂,PySem.runN (denote table) p w j s t= .running s₂ t₂→t₂.calm=true)
theorem oN{k:Nat}{s s':Shared}{t t':Thread}(hs:step (denote table) p w s t= .go s' t'):PySem.runN (denote table) p w (k+1) s t=PySem.runN (denote table) p w k s' t':=by
 rw [runN,hs]
theorem jG{k:Nat}{s s':Shared}{t:Thread}{o:Outcome}(hs:step (denote table) p w s t= .halt o s'):PySem.runN (denote table) p w (k+1) s t= .halted o s':=by
 rw [runN,hs]
theorem oI.step{o:Outcome}{s₁ s s':Shared}{t t':Thread}(hc:t.calm=true)(hs:step (denote table) p w s t= .go s' t')(H:oI p w o s₁ s' t'):oI p w o s₁ s t:=
 H.rec fun k hr jl=>⟨k+1,(oN hs).trans hr,fun j=>Nat.rec (fun s₂ t₂ hj=>(Run.running.inj hj).2▸hc) (fun j _ s₂ t₂ hj=>jl j s₂ t₂ ((oN hs).symm.trans hj)) j⟩
theorem oI.end{o:Outcome}{s s':Shared}{t:Thread}(hc:t.calm=true)(hs:PySem.step (denote table) p w s t= .halt o s'):oI p w o s' s t:=
 ⟨1,jG hs,fun j=>Nat.rec (fun s₂ t₂ hj=>(Run.running.inj hj).2▸hc) (fun j _ s₂ t₂ hj=>Run.noConfusion ((jG hs).symm.trans hj)) j⟩
theorem stepI{α:Type}{n₀:Nat}{Az:Option Value}{s:Shared}{t:Thread}{k:Shared→Thread→Option α}{d:Option α}{x:α}{P:Prop}
  (h:(match through t with|true=>d|false=>match stepOk n₀ Az t with|false=>none|true=>match step (denote table) p w s t with| .go s' t'=>k s' t'| .halt _ _=>none)=some x)
  (h1:through t=true→d=some x→P) (h2: ∀s' t',t.calm=true→step (denote table) p w s t= .go s' t'→k s' t'=some x→P):P:=by
 cases ht:through t with
 |true=>rw [ht] at h;exact h1 ht h
 |false=>
  rw [ht] at h;clear h1
  cases hk:stepOk n₀ Az t with
  |false=>rw [hk] at h;exact Option.noConfusion rfl (heq_of_eq h)
  |true=>
   rw [hk] at h
   cases hs:step (denote table) p w s t with
   |halt o s'=>rw [hs] at h;exact Option.noConfusion rfl (heq_of_eq h)
   |go s' t'=>rw [hs] at h;exact h2 s' t' (Bool.and_eq_true_iff.mp hk).1 hs h
theorem rn{s:Shared}{t:Thread}(hc:leftWithCleanup s.gens=false)(h:through t=true): ∃f,oI p w (.done f) s s t:=by
 obtain ⟨cur,code,pos,stack⟩:=t;obtain ⟨h1,f,h2⟩:=ti h;clear h;replace h1:stack= []:=h1;replace h2:cur= .pure (.done f):=h2;subst h1 h2;obtain ⟨heap,gens,drawn,toks,os⟩:=s;replace hc:leftWithCleanup gens=false:=hc;refine ⟨f,.end rfl ?_⟩;show (if leftWithCleanup gens then _ else _)=_;rw [hc];rfl
theorem m8{n₀:Nat}{Az:Option Value}{s₁:Shared}(hc:leftWithCleanup s₁.gens=false)(n:Nat): ∀(s:Shared) (t:Thread),topRun table p w n₀ Az n s t=some s₁→∃f,oI p w (.done f) s₁ s t:=by
 induction n with
 |zero=>exact fun _ _ h=>Option.noConfusion rfl (heq_of_eq h)
 |succ n ih=>exact fun s t h=>stepI h (fun ht e=>by obtain rfl:s=s₁:=Option.some.inj e;exact rn hc ht) fun s' t' c hs e=>(ih s' t' e).elim fun f H=>⟨f,H.step c hs⟩
theorem nA{n₀:Nat}{Az:Option Value}{s':Shared}{t':Thread}{o:Outcome}{s₁:Shared}(n:Nat): ∀(s:Shared) (t:Thread),topGo table p w n₀ Az n s t=some (s',t')→oI p w o s₁ s' t'→oI p w o s₁ s t:=by
 induction n with
 |zero=>exact fun s t h H=>by obtain ⟨rfl,rfl⟩:s=s'∧t=t':=Prod.mk.inj (Option.some.inj h);exact H
 |succ n ih=>exact fun s t h H=>stepI h (fun _ e=>Option.noConfusion rfl (heq_of_eq e)) fun s2 t2 c hs e=>(ih s2 t2 e H).step c hs
theorem wr{f:Flow}{s s₂:Shared}{t:Thread}(hs:step (denote table) p w s t= .halt (.done f) s₂)(hc: ∀j s' t',PySem.runN (denote table) p w j s t= .running s' t'→t'.calm=true):through t=true∧s₂=s:=by
 refine ⟨?_,step_halt_same _ _ _ _ _ _ _ hs⟩;obtain ⟨s',h1,_⟩:=runN_calm_runNI (denote table) p w (n:=1) (o:=.done f) (s'':=s₂) (jG hs) hc;obtain ⟨cur,code,pos,stack⟩:=t;have h2:(model p w).step s ⟨cur,code,pos,stack⟩= .halt (outcomeOf (.ok f)) s':=by
  have h3:(match (model p w).step s ⟨cur,code,pos,stack⟩ with| .go s t=>Run.running s t| .halt o s=>Run.halted o s)=Run.halted (.done f) s':=h1
  cases h4:(model p w).step s ⟨cur,code,pos,stack⟩ with
  |go a b=>rw [h4] at h3;cases h3
  |halt a b=>rw [h4] at h3;cases h3;rfl
 obtain ⟨rfl,rfl,_⟩:=step_halt_result h2;rfl
theorem rz{f:Flow}{s':Shared}: ∀(n:Nat) (s:Shared) (t:Thread),s.asleep→PySem.runN (denote table) p w n s t= .halted (.done f) s'→(∀j s₂ t₂,PySem.runN (denote table) p w j s t= .running s₂ t₂→t₂.calm=true)→
  ∃m t₁,schedN (denote table) p w m (.single s t)= .running (.single s' t₁)∧through t₁=true:=by
 intro n
 induction n with
 |zero=>intro _ _ _ h;cases h
 |succ n ih=>
  intro s t hz h hc;have e:=sstep_single (denote table) p w s t (hc 0 s t rfl) hz
  cases hs:step (denote table) p w s t with
  |go s₂ t₂=>
   rw [hs] at e;refine e.elim (fun e=> ?_) (fun e=>PySem.Step.noConfusion e);obtain ⟨m,t₁,hm,ht⟩:=ih s₂ t₂ (Shared.asleep_of_life (step_life _ _ _ _ _ _ _ hs) hz) ((oN hs).symm.trans h) fun j s₃ t₃ hj=>hc (j+1) s₃ t₃ ((oN hs).trans hj);exact ⟨m+1,t₁,by rw [schedN,e];exact hm,ht⟩
  |halt o s₂=>
   clear e ih;obtain ⟨rfl,rfl⟩:o= .done f∧s₂=s':=Run.halted.inj ((jG hs).symm.trans h);obtain ⟨h1,rfl⟩:=wr hs hc;exact ⟨0,_,rfl,h1⟩
noncomputable abbrev cN(c:Code)(q:Pos):Ctx:=(⟨c,none,none,[],none⟩:Ctx).over [topFrame q]
noncomputable def o3(M:Model)(Γ:Ctx)(pos:Pos)(t:Sem Fin)(fs:List Frame)(s:Shared)(e:End)(s':Shared):Prop:=∀k hd g l c p kp x,fs= [.ret k hd g l c p kp]→e= .ret x→
  ∃r s₁,Runs M (Γ.over fs) pos t [] s (.ret r) s₁∧Runs M (Γ.goto c) p (k r) [] s₁ e s'
theorem o3.nil{M:Model}{Γ:Ctx}{pos:Pos}{t:Sem Fin}{s:Shared}{e:End}{s':Shared}:o3 M Γ pos t [] s e s':=fun _ _ _ _ _ _ _ _ q=>nomatch q
theorem zi{M:Model}{Γ:Ctx}{pos:Pos}{t:Sem Fin}{fs:List Frame}{s s':Shared}{e:End}(h:Runs M Γ pos t fs s e s'):o3 M Γ pos t fs s e s':=by
 induction h with
 |segRet h1 h2=>intro _ _ _ _ _ _ _ _ q _;cases q;exact ⟨_,_,h1,h2⟩
 |segSuspGen h1=>intro _ _ _ _ _ _ _ _ q _;cases q;simp [splitAtGen] at h1
 |segSuspOut=>exact fun _ _ _ _ _ _ _ _ _ n=>nomatch n
 |segGen=>exact fun _ _ _ _ _ _ _ _ q=>nomatch q
 |_=>exact o3.nil
theorem zh{c:Code}{q pos:Pos}{t:Sem Fin}{s s₁:Shared}{f:Flow}(h:Runs (model p w) ⟨c,none,none,[],none⟩ pos t [topFrame q] s (.ret (.ok f)) s₁):
  ∃f',Runs (model p w) (cN c q) pos t [] s (.ret (.ok f')) s₁:=by
 refine Classical.byContradiction fun no=> ?_;obtain ⟨r,s₂,h1,h2⟩:=zi h _ _ _ _ _ _ _ _ rfl rfl;refine no ?_;clear no;have hw:=(Sem.wp_iff_runs (model p w) _ _ (fun r s'=>r= .ok f∧s'=s₁) _ s₂).mpr ⟨_,_,h2,rfl,rfl⟩
 cases r with
 |ok g=>obtain rfl:s₂=s₁:=hw.2;exact ⟨g,h1⟩
 |error x=>exact nomatch hw.1
theorem jQ{n₀:Nat}{Az:Option Value}{n:Nat}{s s₁:Shared}{l:List Stmt}{env:Env}{c:Code}{pos q:Pos}(hg:s₁.gens= #[])
  (h:topRun table p w n₀ Az n s (restOf l env c pos [topFrame q])=some s₁):
  Sem.wp (model p w) (cN c q) (execs l env) (fun _ _ s'=>s'=s₁) (fun _ _ _=>False) pos s:=by
 have hc:leftWithCleanup s₁.gens=false:=by rw [hg];decide+kernel
 refine Classical.byContradiction fun no=> ?_;obtain ⟨f,k,hr,jl⟩:=m8 hc _ _ _ h;obtain ⟨k',s',hm,hf⟩:=(halts_real_iff (M:=model p w) (r:=.ok f) s₁.forget).mp ⟨k,s₁,hr,rfl,jl⟩;have iN:s'=s₁:=Shared.eq_of_forget_eq hf hg;subst iN;obtain ⟨hR,_⟩:=halts_iff.mp ⟨k',hm⟩;obtain ⟨f',hR⟩:=zh hR;refine no ?_;clear no;have hw:=(Sem.wp_iff_runs (model p w) (cN c q) _ (fun r s₂=>(∃g,r= .ok g)∧s₂=s') pos s).mpr ⟨_,_,hR,⟨f',rfl⟩,rfl⟩;have hw:=(uF _ _ _ _ _ _ _ _ _ _).mp hw;refine Sem.wp_mono _ _ _ (fun a p' s₂ x=> ?_) (fun e p' s₂ x=> ?_) _ _ hw
 ·have:(∃g,(Except.ok a:Result)= .ok g)∧s₂=s':=x
  exact this.2
 ·have x1:=(uF _ _ _ _ _ _ _ _ _ _).mp x
  have x2:Sem.wp (model p w) (cN c q) («leaving» env e>>=fun _=>(.raise e:Sem Flow)) _ _ p' s₂:=x1;rw [Sem.wp_bind'] at x2;refine yQ (M:=model p w) (cN c q) («leaving» env e) p' s₂ (Sem.wp_mono _ _ _ (fun a QK s₃ y=> ?_) (fun e' QK s₃ y=> ?_) _ _ x2)
  ·have y':=y
   rw [Sem.wp_raise,Sem.wp_raise] at y';obtain ⟨⟨g,hg⟩,_⟩:=y';cases hg
  ·have y':=y
   rw [Sem.wp_raise] at y';obtain ⟨⟨g,hg⟩,_⟩:=y';cases hg
end
set_option backward.match.sparseCases true
noncomputable def plainStmt:Stmt→Bool
 | .Assign .. =>true
 | .FunctionDef _ _ _ _ _ [] _ _ _ _=>true
 | .ClassDef _ _ _ _ _ [] _ _ _ _ _=>true
 |_=>false
theorem aG.b{α β:Type}{P:β→Prop}{m:Sem α}{f:α→Sem β}(h: ∀a,aG P (f a)):aG P (Sem.bind m f):=aG.bind m f h
theorem rJ(st:Stmt)(env:Env)(h:plainStmt st=true):aG (fun f:Flow=>f= .next) (exec st env):=by
 cases st with
 |Assign ts v pos=>
  refine aG.b fun _=>aG.b fun b=> ?_
  cases b with
  |true=>exact aG.b fun _=>rfl
  |false=>
   refine aG.b fun v=>aG.b fun sw=> ?_
   cases sw with
   |none=>exact aG.b fun _=>rfl
   |some _=>exact aG.b fun _=>aG.b fun _=>aG.b fun _=>rfl
 |FunctionDef n a b d r tp sc ts bd pos=>
  cases tp with
  |cons=>exact Bool.noConfusion h
  |nil=>exact aG.b fun _=>aG.b fun _=>aG.b fun _=>aG.b fun _=>aG.b fun _=>aG.b fun _=>rfl
 |ClassDef n bs ks b d tp sc ts bd st pos=>
  cases tp with
  |cons=>exact Bool.noConfusion h
  |nil=>exact aG.b fun _=>aG.b fun _=>aG.b fun _=>aG.b fun _=>aG.b fun _=>aG.b fun _=>aG.b fun _=>rfl
 |_=>exact Bool.noConfusion h
theorem pJ(env:Env)(l:List Stmt):l.all plainStmt=true→aG (fun f:Flow=>f= .next) (execs l env):=by
 induction l with
 |nil=>exact fun _=>rfl
 |cons st r ih=>
  intro h;obtain ⟨h1,h2⟩:=Bool.and_eq_true_iff.mp h;replace ih:=ih h2;show aG (fun f:Flow=>f= .next) (Sem.bind (exec st env) fun x=>match x with| .next=>execs r env|f=>pure f);have hm:=rJ st env h1;generalize exec st env=m at hm;clear h h1 h2
  induction m with
  |pure a=>obtain rfl:a= .next:=hm;exact ih
  |raise|unsupported|finish|register|yield|fork|await=>trivial
  |rule _ _ ih|«at» _ _ ih|load _ _ _ ih|update _ _ _ _ ih|alloc _ _ ih|loadIfAlive _ _ ih|point _ _ ih|fresh _ ih|ask _ ih|choose _ _ _ ih|os _ _ _ ih|call _ _ _ _ _ ih|handled _ _ ih|newGen _ _ ih|genState _ _ ih|resume _ _ _ _ ih|stack _ ih|thread _ ih=>exact fun x=>ih x (hm x)
section
variable{M:Model}{Γ:Ctx}{env:Env}
theorem gA{Q:Flow→Pos→Shared→Prop}{E:Value→Pos→Shared→Prop}(r l:List Stmt): ∀(p:Pos) (s:Shared),
  Sem.wp M Γ (execs l env) (fun f p s=>f= .next∧Sem.wp M Γ (execs r env) Q E p s) E p s→Sem.wp M Γ (execs (l++r) env) Q E p s:=by
 induction l with
 |nil=>exact fun p s h=>((Sem.wp_pure' ..).mp h).2
 |cons st l ih=>
  intro p s h;have h':Sem.wp M Γ (exec st env>>=fun x=>match x with| .next=>execs l env|f=>pure f) _ _ p s:=h;show Sem.wp M Γ (exec st env>>=fun x=>match x with| .next=>execs (l++r) env|f=>pure f) _ _ p s;rw [Sem.wp_bind'] at h' ⊢;refine Sem.wp_mono M Γ _ (fun a p' s' x=> ?_) (fun _ _ _ x=>x) p s h'
  cases a with
  |next=>exact ih p' s' x
  |brk=>exact Flow.noConfusion ((Sem.wp_pure' ..).mp x).1
  |cont=>exact Flow.noConfusion ((Sem.wp_pure' ..).mp x).1
  |ret v=>exact Flow.noConfusion ((Sem.wp_pure' ..).mp x).1
end
theorem Gk{p:Program}{w:World}{l:List Stmt}{env:Env}{c:Code}{pos q:Pos}{s s₁:Shared}(hg:s₁.gens= #[])
  (h:Sem.wp (model p w) (cN c q) (execs l env) (fun _ _ s'=>s'=s₁) (fun _ _ _=>False) pos s):
  ∃k,PySem.runN (denote table) p w k s (restOf l env c pos [topFrame q])= .halted (.done (.ret .none)) s₁∧∀j s₂ t₂,PySem.runN (denote table) p w j s (restOf l env c pos [topFrame q])= .running s₂ t₂→t₂.calm=true:=by
 refine Classical.byContradiction fun no=> ?_;obtain ⟨e,s'',hR,he,hs⟩:=runs_wrap_of_wp (M:=model p w) (Γ:=⟨c,none,none,[],none⟩) (fs:=[topFrame q]) (Φ:=fun e s''=>e= .ret (.ok (.ret .none))∧s''=s₁) doneF (leaveH env) id id (execs l env) h
  (fun a p' s' hs=>⟨.ret (.ok (.ret .none)),s',Runs.pop (.ok a) (show Runs (model p w) _ _ (.pure (.done (.ret .none))) [] s' _ _ from .done),rfl,hs⟩) (fun _ _ _ x=>x.elim)
 subst he hs;have hc:leftWithCleanup s''.gens=false:=by rw [hg];decide+kernel
 obtain ⟨n,hn⟩:=halts_iff.mpr ⟨hR,hc⟩;obtain ⟨k,s₂,hk,hf,jl⟩:=(halts_real_iff (M:=model p w) (r:=.ok (.ret .none)) s''.forget).mpr ⟨n,s'',hn,rfl⟩;have:s₂=s'':=Shared.eq_of_forget_eq hf hg;subst this;refine no ?_;clear no;exact ⟨k,hk,jl⟩
set_option backward.match.sparseCases false
noncomputable abbrev xt:=List UInt8×Tok×Value
noncomputable def pS(P:Params)(x:xt):DictEntry:=⟨hashW P (.bytes x.1),.bytes x.1.toArray x.2.1,x.2.2⟩
noncomputable def kQ(e:DictEntry):Obj→Obj:=Obj.mapDictKeys (·.push e)
section
variable{p:Program}{w:World}{A:Around}{E:Value→Shared→Prop}
theorem xL(k:List UInt8)(t:Tok):(bytesKind p w).is k (.bytes k.toArray t)=true:=by
 exact beq_self_eq_true k
theorem nD{d:Addr}{es:List DictEntry}{n:Nat}{x:xt}{s:Shared}{Q:Unit→Shared→Prop}(ho:s.heap.get? d=some (dictOf es n))(hk:KeysOf (bytesKind p w) es.toArray)
  (pY:es.all (fun e=> !isBytes x.1 e.key)=true) (hz:es.length≤1000) (h:Q () {s with heap:=s.heap.update d (kQ (pS w.params x)),toks:=s.toks+1}):
  wpAny (model p w) A (dictSet d (.bytes x.1.toArray x.2.1) x.2.2) Q E s:=by
 unfold dictSet;refine wpAny_holding (wpAny_bind ((bytesKind p w).pyHash (xL x.1 x.2.1) ?_));unfold dictSetHashed;refine wpAny_holding (wpAny_bind (wpAny_dictFind_of (s:={s with toks:=s.toks+1}) (xL (p:=p) (w:=w) x.1 x.2.1) ho rfl hk ?_));have hf:(es.toArray.findIdx? fun e=>(bytesKind p w).is x.1 e.key)=none:=by
  rw [List.findIdx?_toArray,List.findIdx?_eq_none_iff];intro e he;have:=List.all_eq_true.mp pY e he;have e2:(bytesKind p w).is x.1 e.key=isBytes x.1 e.key:=rfl;rw [e2]
  simpa using this
 rw [hf];refine wpAny_bind (wpAny_rule ?_);exact wpAny_updateDictKeysTo (s:={s with toks:=s.toks+1}) ho rfl h (by
  rw [Array.size_push,List.size_toArray,sizeLine_eq];lia)
theorem mZ{d:Addr}(xs:List xt): ∀(es:List DictEntry) (n:Nat) (s:Shared) (Q:PUnit→Shared→Prop),s.heap.get? d=some (dictOf es n)→KeysOf (bytesKind p w) es.toArray→
  (∀x∈xs,es.all (fun e=> !isBytes x.1 e.key)=true)→(xs.map (·.1)).Nodup→es.length+xs.length≤1000→
  Q PUnit.unit {s with heap:=xs.foldl (fun h x=>h.update d (kQ (pS w.params x))) s.heap,toks:=s.toks+xs.length}→
  wpAny (model p w) A (forIn (xs.map fun x=>(Value.bytes x.1.toArray x.2.1,x.2.2)) PUnit.unit fun (x:Value×Value) (_:PUnit)=>(do dictSet d x.1 x.2;pure (ForInStep.yield PUnit.unit):Sem (ForInStep PUnit))) Q E s:=by
 induction xs with
 |nil=>
  intro es n s Q _ _ _ _ _ hQ;rw [List.map_nil,List.forIn_nil];exact wpAny_pure hQ
 |cons x xs ih=>
  intro es n s Q ho hk hn hd hz hQ;rw [List.map_cons,List.forIn_cons];have h2:(s.heap.update d (kQ (pS w.params x))).get? d=some (dictOf (es++ [pS w.params x]) (n+1)):=by
   refine (Heap.get?_update_self (kQ (pS w.params x)) ho rfl).trans (congrArg some ?_);show ({cls:=_,dict:=_,data:=.dict (es.toArray.push (pS w.params x)) (n+1),slots:=_}:Obj)=_;rw [List.push_toArray]
  refine wpAny_bind (wpAny_bind (nD ho hk (hn x (.head _)) (by rw [List.length_cons] at hz;lia) (wpAny_pure ?_)));rw [List.map_cons,List.nodup_cons] at hd;refine ih (es++ [pS w.params x]) (n+1) _ Q h2 ?_ (fun y hy=> ?_) hd.2 (by rw [List.length_append,List.length_singleton];rw [List.length_cons] at hz;lia) ?_
  ·have:=hk.push (xL (p:=p) (w:=w) x.1 x.2.1) x.2.2
   have e2:es.toArray.push ⟨(bytesKind p w).hash x.1,.bytes x.1.toArray x.2.1,x.2.2⟩= (es++ [pS w.params x]).toArray:=by
    rw [List.push_toArray];rfl
   rw [e2] at this;exact this
  ·rw [List.all_append,hn y (.tail _ hy)]
   have kO:x.1≠y.1:=fun e=>hd.1 (e▸List.mem_map_of_mem hy);show (List.all [pS w.params x] fun e=> !isBytes y.1 e.key)=true;exact Bool.and_eq_true_iff.mpr ⟨congrArg Bool.not (beq_eq_false_iff_ne.mpr kO),rfl⟩
  ·have e:s.toks+1+xs.length=s.toks+ (x::xs).length:=by rw [List.length_cons];lia
   rw [←e] at hQ;exact hQ
end
noncomputable def nN:BT→Nat→List Obj→Bool
 |_,_,[]=>true
 |t,n,o::r=>((t.ins n o).get n).isSome&&nN (t.ins n o) (n+1) r
noncomputable def jW:BT→Nat→List Obj→BT
 |t,_,[]=>t
 |t,n,o::r=>jW (t.ins n o) (n+1) r
theorem ri{life:Life}(l:List Obj): ∀(t:BT) (n:Nat),nN t n l=true→absHeap (jW t n l) (n+l.length) life=l.foldl Heap.push (absHeap t n life):=by
 induction l with
 |nil=>exact fun _ _ _=>rfl
 |cons o r ih=>
  intro t n h;obtain ⟨h1,h2⟩:=Bool.and_eq_true_iff.mp h;rw [List.foldl_cons, ←absHeap_ins h1, ←ih _ _ h2];exact congrArg (fun k=>absHeap (jW (t.ins n o) (n+1) r) k life) (Nat.add_right_comm n r.length 1)
noncomputable def pU(a:Addr):BT→List (Obj→Obj)→BT
 |t,[]=>t
 |t,f::r=>pU a (t.set a f) r
theorem Ap{life:Life}{a:Addr}(l:List (Obj→Obj)): ∀(t:BT) (n:Nat),(t.get a).isSome=true→absHeap (pU a t l) n life=l.foldl (fun h f=>h.update a f) (absHeap t n life):=by
 induction l with
 |nil=>exact fun _ _ _=>rfl
 |cons f r ih=>
  intro t n h;obtain ⟨o,ho⟩:=Option.isSome_iff_exists.mp h;rw [List.foldl_cons, ←absHeap_set ho];exact ih (t.set a f) n (by rw [BT.get_set,if_pos rfl,ho];rfl)
theorem ze{a b:Addr}(hb:b≠a)(l:List (Obj→Obj)): ∀(t:BT),(pU a t l).get b=t.get b:=by
 induction l with
 |nil=>exact fun _=>rfl
 |cons f r ih=>exact fun t=>(ih (t.set a f)).trans (by rw [BT.get_set,if_neg hb])
@[irreducible] noncomputable def sj:List Stmt:=(behindTheImports PySem.Challenge.pw_pb0131_01).take 33
@[irreducible] noncomputable def lk:List Stmt:=((behindTheImports PySem.Challenge.pw_pb0131_01).drop 33).take 1
@[irreducible] noncomputable def qc:List Stmt:=(behindTheImports PySem.Challenge.pw_pb0131_01).drop 34
@[irreducible] noncomputable def c6:Env:={scope:=PySem.Challenge.pw_pb0131_01.main.scope,locals:=mainNs,globals:=mainNs,cells:=[],code:=.ref 13,frame:=some 14}
noncomputable section
@[irreducible] noncomputable def QP(_:Params):Obj:={cls:=.type "tuple",data:=.seq #[]}
@[irreducible] noncomputable def QO(_:Params):Obj:={cls:=.none,data:=.fields #[]}
@[irreducible] noncomputable def QN(_:Params):Obj:={cls:=.type "code",data:=.fields #[.str "<module>" 182,.str "<module>" 183,.str "/claim/cut.py" 184,.int 1 0,.int 0 0,.int 0 0,.int 0 0,.int 0 0,.ref 11,.bool false,.int 181 0,.ref 12,.none,.none,.none,.none,.int 185 0,.int 1 0,.str "/claim/cut.py" 186]}
@[irreducible] noncomputable def QM(_:Params):Obj:={cls:=.type "frame",slots:=#[some (.ref 13),some (.ref 3),some (.ref 3),none,some (.str "__main__" 164),none,some (.ref 0)],data:=.plain}
@[irreducible] noncomputable def q0:Pos:=⟨0,0,0,0⟩
@[irreducible] noncomputable def pr(a b:Int)(t:Nat):Obj:={cls:=.type "tuple",data:=.seq #[.int a t,.int b (t+1)]}
@[irreducible] noncomputable def tp(l:List Nat):Obj:={cls:=.type "tuple",data:=.seq (l.map Value.ref).toArray}
@[irreducible] noncomputable def dy:List Obj:=[pr 48 57 616,pr 65 90 618,pr 97 122 620,tp [308,309,310],pr 65 90 623,pr 97 122 625,tp [312,313],pr 9 9 628,pr 32 32 630,tp [315,316],pr 0 31 633,pr 127 127 635,tp [318,319],
 pr 48 57 638,tp [321],pr 33 126 641,tp [323],pr 97 122 644,tp [325],pr 32 126 647,tp [327],pr 33 47 650,pr 58 64 652,pr 91 96 654,pr 123 126 656,tp [329,330,331,332],pr 9 13 659,pr 32 32 661,tp [334,335],
 pr 65 90 664,tp [337],pr 48 57 667,pr 65 70 669,pr 97 102 671,tp [339,340,341]]
@[irreducible] noncomputable def fH:List xt:=[([97,108,110,117,109],615,.ref 311),([97,108,112,104,97],622,.ref 314),([98,108,97,110,107],627,.ref 317),([99,110,116,114,108],632,.ref 320),([100,105,103,105,116],637,.ref 322),
 ([103,114,97,112,104],640,.ref 324),([108,111,119,101,114],643,.ref 326),([112,114,105,110,116],646,.ref 328),([112,117,110,99,116],649,.ref 333),([115,112,97,99,101],658,.ref 336),([117,112,112,101,114],663,.ref 338),([120,100,105,103,105,116],666,.ref 342)]
@[irreducible] noncomputable def ul(P:Params):Obj→Obj:=Obj.putName "MATCHING_CLASSES" (PyData.keyHash P "MATCHING_CLASSES") (.str "MATCHING_CLASSES" 685) (.ref 307)
@[irreducible] noncomputable def Qe(t:BT)(P:Params):BT:=(pU 307 (jW t 307 (emptyDict::dy)) (fH.map fun x=>kQ (pS P x))).set 3 (ul P)
theorem vY:sj.all plainStmt=true:=by kernel_rfl
theorem CE:behindTheImports PySem.Challenge.pw_pb0131_01=sj++ (lk++qc):=by
 unfold sj lk qc;generalize behindTheImports PySem.Challenge.pw_pb0131_01=l;rw [show l.drop 34= (l.drop 33).drop 1 by rw [List.drop_drop],List.take_append_drop,List.take_append_drop]
end
set_option backward.match.sparseCases false
noncomputable section
noncomputable def jt:List Stmt→List (Option Expr)×List Expr×Pos×Pos×Pos
 |[.Assign [.Name _ p] (.Dict ks vs pd) pa]=>(ks,vs,pd,pa,p)
 |_=>([],[],q0,q0,q0)
@[irreducible] noncomputable def io:List (Option Expr):=(jt lk).1
@[irreducible] noncomputable def ie:List Expr:=(jt lk).2.1
@[irreducible] noncomputable def j7:Pos:=(jt lk).2.2.1
@[irreducible] noncomputable def sJ:Pos:=(jt lk).2.2.2.1
@[irreducible] noncomputable def sI:Pos:=(jt lk).2.2.2.2
theorem Bz:lk= [.Assign [.Name "MATCHING_CLASSES" sI] (.Dict io ie j7) sJ]:=by kernel_rfl
@[irreducible] noncomputable def gn:List (Sem Value×Sem Value):=(io.zip ie).map fun x=>(match x.1 with|some k=>eval k c6|none=>pure .none,do let v ←eval x.2 c6;standAt j7;pure v)
theorem BC:(evalEachOpt io c6).zip ((evalEach ie c6).map fun v=>do let x ←v;standAt j7;pure x)=gn.map fun p=>(some p.1,p.2):=by kernel_rfl
theorem xB:gn.length=12:=by kernel_rfl
noncomputable def Qh(c:Code)(q:Pos):Around:={handled:=none,depth:=frameCount (cN c q).below+c.weight,frames:=none,guards:=none,units:=(cN c q).units}
theorem N4(c:Code)(q:Pos):(cN c q).In (Qh c q):=⟨rfl,Nat.le_refl _,(fun _ h=>nomatch h),(fun _ h=>nomatch h),Nat.le_refl _⟩
theorem tC(M:Model)(Γ:Ctx)(t:BT)(g:Array GenState)(d:Drawn)(os:OsState)(Q:List (Value×Value)→Pos→Shared→Prop)(E:Value→Pos→Shared→Prop)(p:Pos):
  Sem.wp M Γ (evalPairs gn) Q E p ⟨(absHeap t 307 {}).push emptyDict,g,d,615,os⟩=
   Q (fH.map fun x=>(Value.bytes x.1.toArray x.2.1,x.2.2)) j7 ⟨dy.foldl Heap.push ((absHeap t 307 {}).push emptyDict),g,d,673,os⟩:=by
 kernel_rfl
theorem zM{b:Nat}(l:List Obj): ∀(t:BT) (n:Nat),nN t n l=true→b<n→(jW t n l).get b=t.get b:=by
 induction l with
 |nil=>exact fun _ _ _ _=>rfl
 |cons o r ih=>
  intro t n h hb;obtain ⟨h1,h2⟩:=Bool.and_eq_true_iff.mp h;show (jW (t.ins n o) (n+1) r).get b=_;rw [ih _ _ h2 (Nat.lt_succ_of_lt hb),BT.get_ins o t n h1,if_neg (Nat.ne_of_lt hb)]
theorem vF{α:Type}{M:Model}{A:Around}{t:Sem α}{Q:α→Shared→Prop}{E:Value→Shared→Prop}{s:Shared}{Γ:Ctx}{p:Pos}(h:wpAny M A t Q E s)(hΓ:Γ.In A):
  Sem.wp M Γ t (fun a _ s'=>Q a s') (fun e _ s'=>E e s') p s:=h Γ p hΓ
theorem Aq(l:List Obj)(h:Heap):(l.foldl Heap.push h).objs.size=h.objs.size+l.length:=by
 induction l generalizing h with
 |nil=>rfl
 |cons o r ih=>rw [List.foldl_cons,ih,Heap.size_push,List.length_cons];lia
theorem mK(l:List Obj)(h:Heap){a:Addr}{o:Obj}(e:h.get? a=some o):(l.foldl Heap.push h).get? a=some o:=by
 induction l generalizing h with
 |nil=>exact e
 |cons x r ih=>rw [List.foldl_cons];exact ih _ (Heap.get?_push_of_some x e)
theorem vR(l:List xt)(P:Params)(h:Heap):(l.foldl (fun h x=>h.update 307 (kQ (pS P x))) h)= (l.map fun x=>kQ (pS P x)).foldl (fun h f=>h.update 307 f) h:=by
 rw [List.foldl_map]
noncomputable def x8:Option Obj→Bool
 |some ⟨_,_,.dict es _,_⟩=> !(aRefKeyMayBeTheName "MATCHING_CLASSES" es)
 |_=>false
theorem B9:(fH.map (·.1)).Nodup:=by decide+kernel
theorem OV(vs:List (Value×Value)):(forIn vs PUnit.unit fun (x:Value×Value) (_:PUnit)=>(do dictSet 307 x.1 x.2;pure (ForInStep.yield PUnit.unit):Sem (ForInStep PUnit)))=
  (forIn vs PUnit.unit fun (x:Value×Value) (_:PUnit)=>(match x with|(k,v)=>do dictSet 307 k v;pure (ForInStep.yield PUnit.unit):Sem (ForInStep PUnit))):=rfl
theorem Bp:swapsWith (.Dict io ie j7) (some (.Name "MATCHING_CLASSES" sI)) sJ.line c6=pure false:=by kernel_rfl
theorem N0:gn≠[]:=by intro e;have:=xB;rw [e] at this;cases this
theorem N2:gn.length<17:=by rw [xB];decide
theorem N3:gn.length≤15:=by rw [xB];decide
theorem yX(v:Value):storeName c6 "MATCHING_CLASSES" v=nsSet 3 "MATCHING_CLASSES" v:=by
 kernel_rfl
theorem Bw{M:Model}{A:Around}{E:Value→Shared→Prop}{s:Shared}{v:Value}{Q:Unit→Shared→Prop}{es:Array DictEntry}{n:Nat}{sl:Array (Option Value)}{dd:Option Addr}{cl:Value}
  (h3:s.heap.get? 3=some ⟨cl,dd,.dict es n,sl⟩) (hr:aRefKeyMayBeTheName "MATCHING_CLASSES" es=false)
  (h:Q () {s with heap:=s.heap.update 3 (Obj.putName "MATCHING_CLASSES" (PyData.keyHash M.w.params "MATCHING_CLASSES") (.str "MATCHING_CLASSES" s.toks) v),toks:=s.toks+1}):
  wpAny M A (storeName c6 "MATCHING_CLASSES" v) Q E s:=by
 rw [yX];unfold nsSet strHash mkText;refine wpAny_bind (wpAny_bind (wpAny_askSetting (wpAny_pure (wpAny_bind (wpAny_bind (wpAny_fresh (wpAny_pure (wpAny_bind (wpAny_loadPart h3 ?_)))))))));dsimp only;rw [hr];simp only [Bool.false_eq_true,if_false];exact wpAny_updatePart h3 h
theorem yR(w:World)(os:OsState)(c:Code)(q pos:Pos)(t:BT)(EB:nN t 307 (emptyDict::dy)=true){es:Array DictEntry}{n:Nat}{sl:Array (Option Value)}{dd:Option Addr}{cl:Value}
  (h3:t.get 3=some ⟨cl,dd,.dict es n,sl⟩) (hr:aRefKeyMayBeTheName "MATCHING_CLASSES" es=false):
  Sem.wp (model PySem.Challenge.pw_pb0131_01 w) (cN c q) (execs lk c6)
   (fun f _ s'=>f= .next∧s'= ⟨absHeap ((pU 307 (jW t 307 (emptyDict::dy)) (fH.map fun x=>kQ (pS w.params x))).set 3 (ul w.params)) 343 {},#[],{},686,os⟩) (fun _ _ _=>False) pos ⟨absHeap t 307 {},#[],{},615,os⟩:=by
 have key:wpAny (model PySem.Challenge.pw_pb0131_01 w) (Qh c q) (execs lk c6)
   (fun f s'=>f= .next∧s'= ⟨absHeap ((pU 307 (jW t 307 (emptyDict::dy)) (fH.map fun x=>kQ (pS w.params x))).set 3 (ul w.params)) 343 {},#[],{},686,os⟩) (fun _ _=>False) ⟨absHeap t 307 {},#[],{},615,os⟩:=by
  rw [Bz];refine wpAny_execs_cons (wpAny_Assign_Name (x:="MATCHING_CLASSES") (pos':=sI) (value:=.Dict io ie j7) (pos:=sJ) (env:=c6) (hs:=Bp) ?_);rw [arm_eval_Dict,BC,dictDisplay_pairs gn N0 N2];refine wpAny_bind (wpAny_standAt (wpAny_bind ?_));unfold subDict;refine wpAny_bind (wpAny_alloc (wpAny_bind (wpAny_holding ?_)));rw [if_pos N3];dsimp only;rw [absHeap_size];refine wpAny_bind (fun Γ p hΓ=> ?_);rw [tC];dsimp only;refine wpAny_holding (wpAny_bind (mZ (d:=307) fH [] 0 _ _ ?ho (fun _ h=>by simp at h) (fun _ _=>rfl) B9 ?hz ?_))
  case hz=>decide+kernel
  case ho=>
   refine mK _ _ ?_;have:=Heap.get?_push_size (absHeap t 307 {}) (o:=emptyDict) rfl;rw [absHeap_size] at this;exact this
  refine wpAny_pure (wpAny_pure (wpAny_pure ?_));dsimp only;have aP:(343:Nat)=307+ (emptyDict::dy).length:=by kernel_rfl
  have Dh:673+fH.length=685:=by kernel_rfl
  have K4:((jW t 307 (emptyDict::dy)).get 307).isSome=true:=by
   have e:=ri (life:={}) _ _ _ EB;have e2:(absHeap (jW t 307 (emptyDict::dy)) (307+ (emptyDict::dy).length) {}).get? 307=some emptyDict:=by
    rw [e,List.foldl_cons];refine mK _ _ ?_;have:=Heap.get?_push_size (absHeap t 307 {}) (o:=emptyDict) rfl;rw [absHeap_size] at this;exact this
   cases q:(jW t 307 (emptyDict::dy)).get 307 with
   |some o=>rfl
   |none=>
    exfalso
    unfold Heap.get? at e2;rw [absHeap_at,if_pos (by rw [←aP];decide),q] at e2;have:(none:Option Obj).getD default= (⟨default,none,default,default⟩:Obj):=rfl;rw [this] at e2
    cases e2
  have KZ:fH.foldl (fun h x=>h.update 307 (kQ (pS w.params x))) (dy.foldl Heap.push ((absHeap t 307 {}).push emptyDict))=
    absHeap (pU 307 (jW t 307 (emptyDict::dy)) (fH.map fun x=>kQ (pS w.params x))) 343 {}:=by
   rw [vR,Ap _ _ _ K4];rw [aP,ri _ _ _ EB];rfl
  rw [KZ,Dh];have PL:(pU 307 (jW t 307 (emptyDict::dy)) (fH.map fun x=>kQ (pS w.params x))).get 3=some ⟨cl,dd,.dict es n,sl⟩:=by
   rw [ze (by decide),zM _ _ _ EB (by decide)];exact h3
  refine Bw (es:=es) (n:=n) (sl:=sl) (dd:=dd) (cl:=cl) ?_ hr ?_
  ·show (absHeap _ 343 {}).get? 3=_
   rw [abs_get (by decide) PL];rfl
  ·refine wpAny_pure ⟨rfl, ?_⟩
   dsimp only;rw [absHeap_set PL];unfold ul;rfl
 exact vF key (N4 c q)
noncomputable def Qw(P:Params):BT:=.node (boot_o_0 P)
 (.node (boot_o_1 P) (.node (boot_o_3 P) (.node (boot_o_7 P) .nil .nil) (.node (QP P) .nil .nil)) (.node (boot_o_5 P) (.node (boot_o_9 P) .nil .nil) (.node (QN P) .nil .nil)))
 (.node (boot_o_2 P) (.node (boot_o_4 P) (.node (boot_o_8 P) .nil .nil) (.node (QO P) .nil .nil)) (.node (boot_o_6 P) (.node (boot_o_10 P) .nil .nil) (.node (QM P) .nil .nil)))
noncomputable def Sb(w:World)(os:OsState):SharedT:=⟨Qw w.params,15,{},#[],{},187,os⟩
noncomputable def qz:Pos:=⟨0,0,0,0⟩
open PySem.W.Fast in
noncomputable def AC(w:World)(os:OsState)(b:List Stmt):Option (Flow×SharedT×Code×Pos):=tw10110043849684766642 tw14364793385576792824 PySem.Challenge.pw_pb0131_01 w 11 (some (.ref 6)) 1 4000 (Sb w os) ⟨Sem.wrap doneF deadEnd id id (tw12563942051412417395 sj c6),.body b c6,qz,[topFrame qz]⟩
noncomputable def eQ:String:="special-get-raises"
@[irreducible] noncomputable def sf(w:World)(os:OsState)(b:List Stmt):BT:=match AC (w.withFollow eQ false) os b with|some r=>r.2.1.tree|none=>.nil
theorem NJ(w:World)(os:OsState)(b:List Stmt):(AC (w.withFollow eQ false) os b).map (fun r=>(r.1,r.2.2.1,r.2.1.n,r.2.1.life,r.2.1.gens,r.2.1.drawn,r.2.1.toks,r.2.1.os,nN r.2.1.tree 307 (emptyDict::dy),x8 (r.2.1.tree.get 3)))=
  some (.next,Code.body b c6,307,{},#[],{},615,os,true,true):=by kernel_rfl
theorem EZ(w:World)(os:OsState)(b:List Stmt):(AC (w.withFollow eQ true) os b).map (fun r=>(r.1,r.2.2.1,r.2.1))= (AC ((w.withFollow eQ true).withFollow eQ false) os b).map (fun r=>(r.1,r.2.2.1,r.2.1)):=by kernel_rfl
theorem Ln(w:World)(os:OsState)(b:List Stmt):(AC w os b).map (fun r=>(r.1,r.2.2.1,r.2.1))= (AC (w.withFollow eQ false) os b).map (fun r=>(r.1,r.2.2.1,r.2.1)):=by
 refine byRow2 eQ (P:=fun w=>(AC w os b).map (fun r=>(r.1,r.2.2.1,r.2.1))= (AC (w.withFollow eQ false) os b).map (fun r=>(r.1,r.2.2.1,r.2.1))) (fun w=> ?_) (fun w=>EZ w os b) w;have e:(w.withFollow eQ false).withFollow eQ false=w.withFollow eQ false:=by
  have h:=World.withFollow_self (w.withFollow eQ false) eQ
  rwa [show (w.withFollow eQ false).params.followText eQ=false from by kernel_rfl] at h
 rw [e]
noncomputable def Gh(w:World)(os:OsState)(b:List Stmt):SharedT:=⟨sf w os b,307,{},#[],{},615,os⟩
noncomputable def GK(w:World)(os:OsState)(b:List Stmt):SharedT:=⟨Qe (sf w os b) w.params,343,{},#[],{},686,os⟩
theorem Dt(w:World)(os:OsState)(b:List Stmt):(∃q,AC w os b=some (.next,Gh w os b,.body b c6,q))∧nN (sf w os b) 307 (emptyDict::dy)=true∧x8 ((sf w os b).get 3)=true:=by
 refine Classical.byContradiction fun no=> ?_;obtain ⟨⟨f,T,c',p'⟩,h,e⟩:=Option.map_eq_some_iff.mp (NJ w os b);simp only [Prod.mk.injEq] at e;obtain ⟨rfl,rfl,e1,e2,e3,e4,e5,e6,e7,e8⟩:=e;have ht:sf w os b=T.tree:=by unfold sf;rw [h]
 have ha:=Ln w os b;rw [h] at ha;obtain ⟨⟨f2,T2,c2,p2⟩,h2,k⟩:=Option.map_eq_some_iff.mp ha;simp only [Prod.mk.injEq] at k;obtain ⟨rfl,rfl,rfl⟩:=k;obtain ⟨t,n,life,gens,drawn,toks,TG⟩:=T2;refine no ?_;clear no;dsimp only at e1 e2 e3 e4 e5 e6 e7 e8 ht;subst e1 e2 e3 e4 e5 e6;refine ⟨⟨p2, ?_⟩,by rw [ht];exact e7,by rw [ht];exact e8⟩;unfold Gh;rw [h2,ht]
theorem Ny(w:World)(os:OsState)(b:List Stmt)(c:Code)(q pos:Pos):
  Sem.wp (model PySem.Challenge.pw_pb0131_01 w) (cN c q) (execs lk c6) (fun f _ s'=>f= .next∧s'= (GK w os b).abs) (fun _ _ _=>False) pos (Gh w os b).abs:=by
 refine Classical.byContradiction fun no=> ?_;obtain ⟨_,hi,h3⟩:=Dt w os b;refine no ?_;clear no;unfold GK Gh;generalize sf w os b=t at hi h3 ⊢
 cases e:t.get 3 with
 |none=>rw [e] at h3;cases h3
 |some o=>
  rw [e] at h3;refine Classical.byContradiction fun no=> ?_;obtain ⟨c1,d1,dt,sl⟩:=o;refine no ?_;clear no
  cases dt with
  |dict es n=>
   have hr:aRefKeyMayBeTheName "MATCHING_CLASSES" es=false:=by
    have h4:(!(aRefKeyMayBeTheName "MATCHING_CLASSES" es))=true:=h3
    simpa using h4
   have:=yR w os c q pos t hi e hr;unfold Qe SharedT.abs;exact this
  |_=>cases h3
end
set_option backward.match.sparseCases false
noncomputable section
theorem Hh{p:Program}{w:World}{n₀:Nat}{Az:Option Value}(s:Shared)(env:Env)(c:Code)(pos q:Pos):topRun treeTable p w n₀ Az 3 s (restOf [] env c pos [topFrame q])=some s:=by
 obtain ⟨heap,gens,drawn,toks,os⟩:=s;rfl
theorem EL(w:World)(os:OsState)(b:List Stmt):
  Sem.wp (model PySem.Challenge.pw_pb0131_01 w) (cN (.body b c6) qz) (execs sj c6) (fun f _ s'=>f= .next∧s'= (Gh w os b).abs) (fun _ _ _=>False) qz (Sb w os).abs:=by
 refine Classical.byContradiction fun no=> ?_;obtain ⟨⟨p',h⟩,_,_⟩:=Dt w os b;refine no ?_;clear no;unfold AC at h;rw [←Fast.te10110043849684766642, ←Fast.te14364793385576792824, ←Fast.te12563942051412417395] at h;have h':=segRun_of h;have k:topRun treeTable PySem.Challenge.pw_pb0131_01 w 11 (some (.ref 6)) (4000+3) (Sb w os).abs (restOf (sj++ []) c6 (.body b c6) qz [topFrame qz])=some (Gh w os b).abs:=piece_app h' (Hh _ _ _ _ _);rw [List.append_nil, ←table_eq_tree] at k;exact vA _ _ (pJ c6 sj vY) (jQ (p:=PySem.Challenge.pw_pb0131_01) (w:=w) (by rfl) k)
end
set_option backward.match.sparseCases false
noncomputable section
abbrev pw:=PySem.Challenge.pw_pb0131_01
noncomputable def de(P:Params)(n:Str)(t:Nat)(v:Value):DictEntry:=⟨PyData.keyHash P n,.str n t,v⟩
noncomputable def dk(es:List DictEntry)(n:Nat)(c:Value):Obj:={cls:=c,data:=.dict es.toArray n}
noncomputable def bg(i:Nat):Stmt:=(pw.main.body[i]?).getD (.Pass default)
noncomputable def bB(i j:Nat):Stmt:=match bg i with| .ClassDef _ _ _ b _ _ _ _ _ _ _=>(b[j]?).getD (.Pass default)|_=>.Pass default
noncomputable def fo(n qn:Str)(st:Stmt)(dV pm cd:Value):Obj:=match st with
 | .FunctionDef _ ps b _ _ _ sc _ _ _=>{cls:=.type "function",data:=.func {name:=n,qualname:=qn,doc:=.none,params:=ps,body:=.stmts b,scope:=sc,defaults:=dV,kwdefaults:=.none,closure:=[],globals:=3,builtins:=0,annotations:=.none,pyModule:=pm,code:=cd}}
 |_=>default
noncomputable def cA(n q:Str)(a:Nat)(l c:Int)(r t:Nat):Obj:={cls:=.type "code",dict:=none,data:=.fields #[.str n a,.str q (a+1),.str "/claim/cut.py" (a+2),.int l 0,.int c 0,.int 0 0,.int 0 0,.int 3 0,.ref r,.bool true,.int 181 0,.ref (r+1),.none,.ref (r+2),.ref (r+3),.ref (r+4),.int (Int.ofNat t) 0,.int l 0,.str "/claim/cut.py" (t+1)]}
noncomputable def cB(n q:Str)(a:Nat)(l c:Int)(r t:Nat):Obj:={cls:=.type "code",dict:=none,data:=.fields #[.str n a,.str q (a+1),.str "/claim/cut.py" (a+2),.int l 0,.int c 0,.int 0 0,.int 0 0,.int 3 0,.ref r,.bool true,.int 181 0,.ref (r+1),.none,.none,.none,.ref (r+2),.int (Int.ofNat t) 0,.int l 0,.str "/claim/cut.py" (t+1)]}
noncomputable def Ei:List Nat:=[3,29,35,36,38,39,63,64,72,79,80,86,87,93,94,100,101,107,108,135,136,142,143,149,150,166,172,173,196,197,214,215,221,222,228,229,235,236,242,243,249,250,256,257,263,264,270,271,277,278,284,285,291,292,301,302,428,434,435,444,445,451,452,458,459,465,466,470,471,557,563,564,565,571,572,574,575,587,593,594,610,611,621,622,630,636,637,645,651,652,654,655,674,680,681,694,695,699,700,706,707,713,714,715,721,722,723,729,730,736,737,743,744,750,751,757,758,764,765,766,770,771,773,774,791,792,815,816,826,827,835,836,837,838,839,840,841,842,843,844,845,849,850,856,857,863,864,870,871,875,876,880,881,887,888,894,895,901,902,908,909,915,916,920,921,927,928,934,935,939,940,944,945,918]
@[irreducible] noncomputable def Pg(P:Params):Obj:=dk [de P "__name__" 165 (.str "law_pb0131_01" 1388),de P "__doc__" 166 (.none),de P "__package__" 167 (.none),de P "__loader__" 168 (.builtin "__main__.__loader__#opaque"),de P "__spec__" 169 (.none),de P "__annotations__" 170 (.ref 6),de P "__builtins__" 171 (.ref 4),de P "__file__" 173 (.str "/claim/cut.py" 172),de P "__cached__" 174 (.none),de P "_wall" 193 (.ref 21),de P "GitError" 225 (.ref 39),de P "BadObject" 241 (.ref 52),de P "BadConfig" 257 (.ref 64),de P "octets_of" 263 (.ref 71),de P "CONFIG_WHITE" 270 (.ref 72),de P "CONFIG_ESCAPES" 286 (.ref 73),de P "config_is_letter" 293 (.ref 80),de P "config_is_sign" 300 (.ref 87),de P "config_name" 308 (.ref 94),de P "config_section" 318 (.ref 101),de P "config_key" 326 (.ref 108),de P "config_header" 336 (.ref 115),de P "quote_value" 346 (.ref 122),de P "config_row" 355 (.ref 129),de P "bool_of" 363 (.ref 136),de P "config_figures" 374 (.ref 143),de P "int_of" 385 (.ref 150),de P "path_of" 396 (.ref 158),de P "ConfigPiece" 459 (.ref 197),de P "ConfigReader" 594 (.ref 302),de P "MATCHING_SLASH" 598 (.int 47 597),de P "MATCHING_BACKSLASH" 600 (.int 92 599),de P "MATCHING_STAR" 602 (.int 42 601),de P "MATCHING_LITERAL" 604 (.int 0 603),de P "MATCHING_ONE" 606 (.int 1 605),de P "MATCHING_SET" 608 (.int 2 607),de P "MATCHING_RUN" 610 (.int 3 609),de P "MATCHING_DEEP" 612 (.int 4 611),de P "MATCHING_FOLDERS" 614 (.int 5 613),de P "MATCHING_CLASSES" 685 (.ref 307),de P "matching_other" 692 (.ref 349),de P "matching_sign" 700 (.ref 356),de P "matching_class" 709 (.ref 363),de P "matching_bracket" 724 (.ref 370),de P "matching_stars" 734 (.ref 377),de P "matching_tokens" 748 (.ref 384),de P "matching_within" 758 (.ref 391),de P "matching_one" 769 (.ref 398),de P "matching_step" 784 (.ref 405),de P "matching_runs" 796 (.ref 412),de P "wildmatch" 806 (.ref 420),de P "CONFIG_MOST_INCLUDES" 810 (.int 10 809),de P "Config" 1023 (.ref 575),de P "ConfigFacts" 1080 (.ref 611),de P "config_condition" 1087 (.ref 622),de P "config_folder" 1095 (.ref 629),de P "config_included" 1115 (.ref 637),de P "ConfigLevel" 1149 (.ref 655),de P "config_no_file" 1156 (.ref 666),de P "Configs" 1308 (.ref 774),de P "RefSpec" 1368 (.ref 816),de P "refspec_side" 1376 (.ref 827),de P "refspec_rest" 1387 (.ref 834),de P "_law_values" 1410 (.ref 835),de P "_law_heads" 1419 (.ref 841),de P "_law_bases" 1426 (.ref 845),de P "_law_deck" 1432 (.ref 850),de P "_law_draw" 1440 (.ref 857),de P "_law_pick" 1448 (.ref 864),de P "_law_row" 1460 (.ref 871),de P "_law_file" 1466 (.ref 876),de P "_law_small" 1472 (.ref 881),de P "_law_key" 1482 (.ref 888),de P "_law_figures" 1493 (.ref 895),de P "_law_number" 1504 (.ref 902),de P "_law_truth" 1513 (.ref 909),de P "_law_heard" 1521 (.ref 916),de P "_law_keys_right" 1527 (.ref 921),de P "_law_by" 1541 (.ref 928),de P "_law_urls_right" 1553 (.ref 935),de P "_law_remotes_right" 1559 (.ref 940),de P "law" 1565 (.ref 945)] 82 (.type "dict")
@[irreducible] noncomputable def NX(P:Params):Obj:={cls:=.type "tuple",dict:=none,data:=.seq #[.str "" 208] 0}
@[irreducible] noncomputable def NW(P:Params):Obj:=cA "__init__" "GitError.__init__" 209 7 2 30 214
@[irreducible] noncomputable def NV(P:Params):Obj:=fo "__init__" "GitError.__init__" (bB 2 0) (.ref 29) (.str "gitcore.base" 194) (.ref 35)
@[irreducible] noncomputable def NU(P:Params):Obj:=dk [de P "__module__" 203 (.str "gitcore.base" 194),de P "__firstlineno__" 207 (.int 5 206),de P "__init__" 216 (.ref 36),de P "__static_attributes__" 218 (.ref 37),de P "__weakref__" 220 (.ref 40),de P "__doc__" 221 (.none)] 3 (.type "dict")
@[irreducible] noncomputable def NT(P:Params):Obj:={cls:=.type "type",dict:=none,data:=.cls {name:="GitError",bases:=[.type "Exception"],mro:=[.ref 39,.type "Exception",.type "BaseException",.type "object"],ns:=38,qualname:="GitError",hasDict:=true,slotNames:=[],subclasses:=[.ref 52,.ref 64],abstract:=false,collection:=none,hasDel:=false},slots:=#[some (.ref 22),none,some (.str "GitError" 196),some (.str "GitError" 204),some (.builtin "Exception.__new__"),some (.bool true)]}
@[irreducible] noncomputable def NS(P:Params):Obj:=dk [de P "__module__" 249 (.str "gitcore.base" 194),de P "__firstlineno__" 253 (.int 11 252),de P "__static_attributes__" 254 (.ref 62),de P "__doc__" 255 (.none)] 2 (.type "dict")
@[irreducible] noncomputable def NR(P:Params):Obj:={cls:=.type "type",dict:=none,data:=.cls {name:="BadConfig",bases:=[.ref 39],mro:=[.ref 64,.ref 39,.type "Exception",.type "BaseException",.type "object"],ns:=63,qualname:="BadConfig",hasDict:=true,slotNames:=[],subclasses:=[],abstract:=false,collection:=none,hasDel:=false},slots:=#[some (.ref 55),none,some (.str "BadConfig" 242),some (.str "BadConfig" 250),some (.builtin "Exception.__new__"),some (.bool true)]}
@[irreducible] noncomputable def NQ(P:Params):Obj:={cls:=.type "tuple",dict:=none,data:=.seq #[.int 32 266,.int 9 267,.int 10 268,.int 13 269] 0}
@[irreducible] noncomputable def NP(P:Params):Obj:=cA "config_is_letter" "config_is_letter" 287 22 1 74 291
@[irreducible] noncomputable def NO(P:Params):Obj:=fo "config_is_letter" "config_is_letter" (bg 9) (.none) (.str "gitcore.configtext" 264) (.ref 79)
@[irreducible] noncomputable def NN(P:Params):Obj:=cA "config_is_sign" "config_is_sign" 294 24 1 81 298
@[irreducible] noncomputable def NM(P:Params):Obj:=fo "config_is_sign" "config_is_sign" (bg 10) (.none) (.str "gitcore.configtext" 264) (.ref 86)
@[irreducible] noncomputable def NL(P:Params):Obj:=cA "config_name" "config_name" 301 26 1 88 306
@[irreducible] noncomputable def NK(P:Params):Obj:=fo "config_name" "config_name" (bg 11) (.none) (.str "gitcore.configtext" 264) (.ref 93)
@[irreducible] noncomputable def KJ(P:Params):Obj:=cA "config_section" "config_section" 309 33 1 95 316
@[irreducible] noncomputable def KH(P:Params):Obj:=fo "config_section" "config_section" (bg 12) (.none) (.str "gitcore.configtext" 264) (.ref 100)
@[irreducible] noncomputable def KG(P:Params):Obj:=cA "config_key" "config_key" 319 47 1 102 324
@[irreducible] noncomputable def KD(P:Params):Obj:=fo "config_key" "config_key" (bg 13) (.none) (.str "gitcore.configtext" 264) (.ref 107)
@[irreducible] noncomputable def KA(P:Params):Obj:=cA "bool_of" "bool_of" 356 84 1 130 361
@[irreducible] noncomputable def Kz(P:Params):Obj:=fo "bool_of" "bool_of" (bg 17) (.none) (.str "gitcore.configtext" 264) (.ref 135)
@[irreducible] noncomputable def Ky(P:Params):Obj:=cA "config_figures" "config_figures" 364 93 2 137 372
@[irreducible] noncomputable def Kx(P:Params):Obj:=fo "config_figures" "config_figures" (bg 18) (.none) (.str "gitcore.configtext" 264) (.ref 142)
@[irreducible] noncomputable def Kw(P:Params):Obj:=cA "int_of" "int_of" 375 103 1 144 383
@[irreducible] noncomputable def Kv(P:Params):Obj:=fo "int_of" "int_of" (bg 19) (.none) (.str "gitcore.configtext" 264) (.ref 149)
@[irreducible] noncomputable def Ku(P:Params):Obj:={cls:=.type "tuple",dict:=none,data:=.seq #[.str "" 409,.str "" 410,.none,.str "" 411] 0}
@[irreducible] noncomputable def Kt(P:Params):Obj:=cA "__init__" "ConfigPiece.__init__" 412 130 7 167 422
@[irreducible] noncomputable def Ks(P:Params):Obj:=fo "__init__" "ConfigPiece.__init__" (bB 21 0) (.ref 166) (.str "gitcore.configtext" 264) (.ref 172)
@[irreducible] noncomputable def Kr(P:Params):Obj:=dk [de P "__module__" 404 (.str "gitcore.configtext" 264),de P "__firstlineno__" 408 (.int 128 407),de P "__init__" 424 (.ref 173),de P "is_open" 431 (.ref 180),de P "is_note" 438 (.ref 187),de P "indent" 445 (.ref 194),de P "__static_attributes__" 452 (.ref 195),de P "__dict__" 454 (.ref 198),de P "__weakref__" 456 (.ref 199),de P "__doc__" 457 (.none)] 4 (.type "dict")
@[irreducible] noncomputable def Kq(P:Params):Obj:={cls:=.type "type",dict:=none,data:=.cls {name:="ConfigPiece",bases:=[.type "object"],mro:=[.ref 197,.type "object"],ns:=196,qualname:="ConfigPiece",hasDict:=true,slotNames:=[],subclasses:=[],abstract:=false,collection:=none,hasDel:=false},slots:=#[none,none,some (.str "ConfigPiece" 397),some (.str "ConfigPiece" 405),some (.builtin "object.__new__"),some (.bool true)]}
@[irreducible] noncomputable def Kp(P:Params):Obj:=cA "__init__" "ConfigReader.__init__" 472 150 2 209 477
@[irreducible] noncomputable def Ko(P:Params):Obj:=fo "__init__" "ConfigReader.__init__" (bB 22 0) (.none) (.str "gitcore.configtext" 264) (.ref 214)
@[irreducible] noncomputable def Kn(P:Params):Obj:=cA "is_over" "ConfigReader.is_over" 480 156 1 216 484
@[irreducible] noncomputable def Km(P:Params):Obj:=fo "is_over" "ConfigReader.is_over" (bB 22 1) (.none) (.str "gitcore.configtext" 264) (.ref 221)
@[irreducible] noncomputable def Kl(P:Params):Obj:=cA "peek" "ConfigReader.peek" 487 159 1 223 492
@[irreducible] noncomputable def Kk(P:Params):Obj:=fo "peek" "ConfigReader.peek" (bB 22 2) (.none) (.str "gitcore.configtext" 264) (.ref 228)
@[irreducible] noncomputable def Kj(P:Params):Obj:=cA "take" "ConfigReader.take" 495 167 1 230 500
@[irreducible] noncomputable def Ki(P:Params):Obj:=fo "take" "ConfigReader.take" (bB 22 3) (.none) (.str "gitcore.configtext" 264) (.ref 235)
@[irreducible] noncomputable def Kh(P:Params):Obj:=cA "skip_blanks" "ConfigReader.skip_blanks" 503 177 1 237 507
@[irreducible] noncomputable def Kg(P:Params):Obj:=fo "skip_blanks" "ConfigReader.skip_blanks" (bB 22 4) (.none) (.str "gitcore.configtext" 264) (.ref 242)
@[irreducible] noncomputable def Kf(P:Params):Obj:=cA "keep" "ConfigReader.keep" 510 181 2 244 515
@[irreducible] noncomputable def Ke(P:Params):Obj:=fo "keep" "ConfigReader.keep" (bB 22 5) (.none) (.str "gitcore.configtext" 264) (.ref 249)
@[irreducible] noncomputable def Kc(P:Params):Obj:=cA "read" "ConfigReader.read" 518 186 1 251 528
@[irreducible] noncomputable def Kb(P:Params):Obj:=fo "read" "ConfigReader.read" (bB 22 6) (.none) (.str "gitcore.configtext" 264) (.ref 256)
@[irreducible] noncomputable def Ka(P:Params):Obj:=cA "read_header" "ConfigReader.read_header" 531 214 1 258 537
@[irreducible] noncomputable def J9(P:Params):Obj:=fo "read_header" "ConfigReader.read_header" (bB 22 7) (.none) (.str "gitcore.configtext" 264) (.ref 263)
@[irreducible] noncomputable def J8(P:Params):Obj:=cA "read_subsection" "ConfigReader.read_subsection" 540 229 1 265 545
@[irreducible] noncomputable def J7(P:Params):Obj:=fo "read_subsection" "ConfigReader.read_subsection" (bB 22 8) (.none) (.str "gitcore.configtext" 264) (.ref 270)
@[irreducible] noncomputable def J6(P:Params):Obj:=cA "read_spelt" "ConfigReader.read_spelt" 548 247 1 272 553
@[irreducible] noncomputable def J5(P:Params):Obj:=fo "read_spelt" "ConfigReader.read_spelt" (bB 22 9) (.none) (.str "gitcore.configtext" 264) (.ref 277)
@[irreducible] noncomputable def J4(P:Params):Obj:=cA "read_value" "ConfigReader.read_value" 556 253 1 279 560
@[irreducible] noncomputable def J3(P:Params):Obj:=fo "read_value" "ConfigReader.read_value" (bB 22 10) (.none) (.str "gitcore.configtext" 264) (.ref 284)
@[irreducible] noncomputable def J2(P:Params):Obj:=cA "read_signs" "ConfigReader.read_signs" 563 263 1 286 571
@[irreducible] noncomputable def J1(P:Params):Obj:=fo "read_signs" "ConfigReader.read_signs" (bB 22 11) (.none) (.str "gitcore.configtext" 264) (.ref 291)
@[irreducible] noncomputable def J0(P:Params):Obj:=dk [de P "__module__" 467 (.str "gitcore.configtext" 264),de P "__firstlineno__" 471 (.int 148 470),de P "__init__" 479 (.ref 215),de P "is_over" 486 (.ref 222),de P "peek" 494 (.ref 229),de P "take" 502 (.ref 236),de P "skip_blanks" 509 (.ref 243),de P "keep" 517 (.ref 250),de P "read" 530 (.ref 257),de P "read_header" 539 (.ref 264),de P "read_subsection" 547 (.ref 271),de P "read_spelt" 555 (.ref 278),de P "read_value" 562 (.ref 285),de P "read_signs" 573 (.ref 292),de P "read_escape" 582 (.ref 299),de P "__static_attributes__" 587 (.ref 300),de P "__dict__" 589 (.ref 303),de P "__weakref__" 591 (.ref 304),de P "__doc__" 592 (.none)] 4 (.type "dict")
@[irreducible] noncomputable def JZ(P:Params):Obj:={cls:=.type "type",dict:=none,data:=.cls {name:="ConfigReader",bases:=[.type "object"],mro:=[.ref 302,.type "object"],ns:=301,qualname:="ConfigReader",hasDict:=true,slotNames:=[],subclasses:=[],abstract:=false,collection:=none,hasDel:=false},slots:=#[none,none,some (.str "ConfigReader" 460),some (.str "ConfigReader" 468),some (.builtin "object.__new__"),some (.bool true)]}
@[irreducible] noncomputable def JY(P:Params):Obj:={cls:=.type "tuple",dict:=none,data:=.seq #[.bytes #[] 823] 0}
@[irreducible] noncomputable def JX(P:Params):Obj:=cA "__init__" "Config.__init__" 824 430 2 429 829
@[irreducible] noncomputable def JW(P:Params):Obj:=fo "__init__" "Config.__init__" (bB 47 0) (.ref 428) (.str "gitcore.configs" 807) (.ref 434)
@[irreducible] noncomputable def JV(P:Params):Obj:=cB "items" "Config.items" 838 436 1 441 841
@[irreducible] noncomputable def JU(P:Params):Obj:=fo "items" "Config.items" (bB 47 2) (.none) (.str "gitcore.configs" 807) (.ref 444)
@[irreducible] noncomputable def JT(P:Params):Obj:=cA "spots" "Config.spots" 844 439 2 446 854
@[irreducible] noncomputable def JS(P:Params):Obj:=fo "spots" "Config.spots" (bB 47 3) (.none) (.str "gitcore.configs" 807) (.ref 451)
@[irreducible] noncomputable def JR(P:Params):Obj:=cA "has" "Config.has" 857 447 2 453 862
@[irreducible] noncomputable def JQ(P:Params):Obj:=fo "has" "Config.has" (bB 47 4) (.none) (.str "gitcore.configs" 807) (.ref 458)
@[irreducible] noncomputable def JP(P:Params):Obj:=cA "get" "Config.get" 865 450 2 460 871
@[irreducible] noncomputable def JO(P:Params):Obj:=fo "get" "Config.get" (bB 47 5) (.none) (.str "gitcore.configs" 807) (.ref 465)
@[irreducible] noncomputable def JN(P:Params):Obj:=cB "get_all" "Config.get_all" 874 454 2 467 877
@[irreducible] noncomputable def JM(P:Params):Obj:=fo "get_all" "Config.get_all" (bB 47 6) (.none) (.str "gitcore.configs" 807) (.ref 470)
@[irreducible] noncomputable def JL(P:Params):Obj:={cls:=.type "tuple",dict:=none,data:=.seq #[.bool false] 0}
@[irreducible] noncomputable def JK(P:Params):Obj:=cA "flag" "Config.flag" 996 535 3 558 1002
@[irreducible] noncomputable def JJ(P:Params):Obj:=fo "flag" "Config.flag" (bB 47 19) (.ref 557) (.str "gitcore.configs" 807) (.ref 563)
@[irreducible] noncomputable def JI(P:Params):Obj:={cls:=.type "tuple",dict:=none,data:=.seq #[.int 0 1005] 0}
@[irreducible] noncomputable def JH(P:Params):Obj:=cA "number" "Config.number" 1006 538 3 566 1012
@[irreducible] noncomputable def JG(P:Params):Obj:=fo "number" "Config.number" (bB 47 20) (.ref 565) (.str "gitcore.configs" 807) (.ref 571)
@[irreducible] noncomputable def JF(P:Params):Obj:=dk [de P "__module__" 818 (.str "gitcore.configs" 807),de P "__firstlineno__" 822 (.int 428 821),de P "__init__" 831 (.ref 435),de P "octets" 837 (.ref 440),de P "items" 843 (.ref 445),de P "spots" 856 (.ref 452),de P "has" 864 (.ref 459),de P "get" 873 (.ref 466),de P "get_all" 879 (.ref 471),de P "sections" 886 (.ref 478),de P "row_of" 896 (.ref 485),de P "put" 906 (.ref 492),de P "put_over" 919 (.ref 499),de P "drop" 927 (.ref 506),de P "close_row" 935 (.ref 513),de P "end_of" 944 (.ref 520),de P "add" 961 (.ref 527),de P "unset" 970 (.ref 535),de P "drop_bare" 978 (.ref 542),de P "rename_section" 987 (.ref 549),de P "remove_section" 995 (.ref 556),de P "flag" 1004 (.ref 564),de P "number" 1014 (.ref 572),de P "__static_attributes__" 1016 (.ref 573),de P "__dict__" 1018 (.ref 576),de P "__weakref__" 1020 (.ref 577),de P "__doc__" 1021 (.none)] 4 (.type "dict")
@[irreducible] noncomputable def JE(P:Params):Obj:={cls:=.type "type",dict:=none,data:=.cls {name:="Config",bases:=[.type "object"],mro:=[.ref 575,.type "object"],ns:=574,qualname:="Config",hasDict:=true,slotNames:=[],subclasses:=[],abstract:=false,collection:=none,hasDel:=false},slots:=#[none,none,some (.str "Config" 811),some (.str "Config" 819),some (.builtin "object.__new__"),some (.bool true)]}
@[irreducible] noncomputable def JD(P:Params):Obj:={cls:=.type "tuple",dict:=none,data:=.seq #[.str "" 1036,.none,.str "" 1037] 0}
@[irreducible] noncomputable def JC(P:Params):Obj:=cA "__init__" "ConfigFacts.__init__" 1038 542 4 588 1045
@[irreducible] noncomputable def JB(P:Params):Obj:=fo "__init__" "ConfigFacts.__init__" (bB 48 0) (.ref 587) (.str "gitcore.configs" 807) (.ref 593)
@[irreducible] noncomputable def JA(P:Params):Obj:=dk [de P "__module__" 1031 (.str "gitcore.configs" 807),de P "__firstlineno__" 1035 (.int 540 1034),de P "__init__" 1047 (.ref 594),de P "is_so" 1057 (.ref 601),de P "is_there" 1069 (.ref 608),de P "__static_attributes__" 1073 (.ref 609),de P "__dict__" 1075 (.ref 612),de P "__weakref__" 1077 (.ref 613),de P "__doc__" 1078 (.none)] 4 (.type "dict")
@[irreducible] noncomputable def Jz(P:Params):Obj:={cls:=.type "type",dict:=none,data:=.cls {name:="ConfigFacts",bases:=[.type "object"],mro:=[.ref 611,.type "object"],ns:=610,qualname:="ConfigFacts",hasDict:=true,slotNames:=[],subclasses:=[],abstract:=false,collection:=none,hasDel:=false},slots:=#[none,none,some (.str "ConfigFacts" 1024),some (.str "ConfigFacts" 1032),some (.builtin "object.__new__"),some (.bool true)]}
@[irreducible] noncomputable def Jy(P:Params):Obj:=cA "config_condition" "config_condition" 1081 570 1 616 1085
@[irreducible] noncomputable def Jx(P:Params):Obj:=fo "config_condition" "config_condition" (bg 49) (.none) (.str "gitcore.configs" 807) (.ref 621)
@[irreducible] noncomputable def Jw(P:Params):Obj:={cls:=.type "tuple",dict:=none,data:=.seq #[.str "" 1096,.int 0 1097] 0}
@[irreducible] noncomputable def Jv(P:Params):Obj:=cA "config_included" "config_included" 1098 577 5 631 1113
@[irreducible] noncomputable def Ju(P:Params):Obj:=fo "config_included" "config_included" (bg 51) (.ref 630) (.str "gitcore.configs" 807) (.ref 636)
@[irreducible] noncomputable def Jt(P:Params):Obj:={cls:=.type "tuple",dict:=none,data:=.seq #[.str "" 1128] 0}
@[irreducible] noncomputable def Js(P:Params):Obj:=cA "__init__" "ConfigLevel.__init__" 1129 593 4 646 1136
@[irreducible] noncomputable def Jr(P:Params):Obj:=fo "__init__" "ConfigLevel.__init__" (bB 52 0) (.ref 645) (.str "gitcore.configs" 807) (.ref 651)
@[irreducible] noncomputable def Jq(P:Params):Obj:=dk [de P "__module__" 1123 (.str "gitcore.configs" 807),de P "__firstlineno__" 1127 (.int 591 1126),de P "__init__" 1138 (.ref 652),de P "__static_attributes__" 1142 (.ref 653),de P "__dict__" 1144 (.ref 656),de P "__weakref__" 1146 (.ref 657),de P "__doc__" 1147 (.none)] 4 (.type "dict")
@[irreducible] noncomputable def Jp(P:Params):Obj:={cls:=.type "type",dict:=none,data:=.cls {name:="ConfigLevel",bases:=[.type "object"],mro:=[.ref 655,.type "object"],ns:=654,qualname:="ConfigLevel",hasDict:=true,slotNames:=[],subclasses:=[],abstract:=false,collection:=none,hasDel:=false},slots:=#[none,none,some (.str "ConfigLevel" 1116),some (.str "ConfigLevel" 1124),some (.builtin "object.__new__"),some (.bool true)]}
@[irreducible] noncomputable def Jo(P:Params):Obj:={cls:=.type "tuple",dict:=none,data:=.seq #[.ref 666,.none] 0}
@[irreducible] noncomputable def Jn(P:Params):Obj:=cA "__init__" "Configs.__init__" 1169 601 4 675 1176
@[irreducible] noncomputable def Jm(P:Params):Obj:=fo "__init__" "Configs.__init__" (bB 54 0) (.ref 674) (.str "gitcore.configs" 807) (.ref 680)
@[irreducible] noncomputable def Jl(P:Params):Obj:=cA "items" "Configs.items" 1188 612 1 689 1194
@[irreducible] noncomputable def Jk(P:Params):Obj:=fo "items" "Configs.items" (bB 54 2) (.none) (.str "gitcore.configs" 807) (.ref 694)
@[irreducible] noncomputable def Jj(P:Params):Obj:=cB "get_all" "Configs.get_all" 1197 618 2 696 1200
@[irreducible] noncomputable def Ji(P:Params):Obj:=fo "get_all" "Configs.get_all" (bB 54 3) (.none) (.str "gitcore.configs" 807) (.ref 699)
@[irreducible] noncomputable def Jh(P:Params):Obj:=cA "has" "Configs.has" 1203 622 2 701 1208
@[irreducible] noncomputable def Jg(P:Params):Obj:=fo "has" "Configs.has" (bB 54 4) (.none) (.str "gitcore.configs" 807) (.ref 706)
@[irreducible] noncomputable def Jf(P:Params):Obj:=cA "get" "Configs.get" 1211 625 2 708 1217
@[irreducible] noncomputable def Je(P:Params):Obj:=fo "get" "Configs.get" (bB 54 5) (.none) (.str "gitcore.configs" 807) (.ref 713)
@[irreducible] noncomputable def Jd(P:Params):Obj:={cls:=.type "tuple",dict:=none,data:=.seq #[.bool false] 0}
@[irreducible] noncomputable def Jc(P:Params):Obj:=cA "flag" "Configs.flag" 1220 629 3 716 1226
@[irreducible] noncomputable def Jb(P:Params):Obj:=fo "flag" "Configs.flag" (bB 54 6) (.ref 715) (.str "gitcore.configs" 807) (.ref 721)
@[irreducible] noncomputable def Ja(P:Params):Obj:={cls:=.type "tuple",dict:=none,data:=.seq #[.int 0 1229] 0}
@[irreducible] noncomputable def IZ(P:Params):Obj:=cA "number" "Configs.number" 1230 632 3 724 1236
@[irreducible] noncomputable def IY(P:Params):Obj:=fo "number" "Configs.number" (bB 54 7) (.ref 723) (.str "gitcore.configs" 807) (.ref 729)
@[irreducible] noncomputable def IX(P:Params):Obj:=cA "subsections" "Configs.subsections" 1239 635 2 731 1249
@[irreducible] noncomputable def IW(P:Params):Obj:=fo "subsections" "Configs.subsections" (bB 54 8) (.none) (.str "gitcore.configs" 807) (.ref 736)
@[irreducible] noncomputable def IV(P:Params):Obj:=cA "url_by" "Configs.url_by" 1252 644 3 738 1262
@[irreducible] noncomputable def IU(P:Params):Obj:=fo "url_by" "Configs.url_by" (bB 54 9) (.none) (.str "gitcore.configs" 807) (.ref 743)
@[irreducible] noncomputable def IT(P:Params):Obj:=cA "url_of" "Configs.url_of" 1265 652 2 745 1271
@[irreducible] noncomputable def IS(P:Params):Obj:=fo "url_of" "Configs.url_of" (bB 54 10) (.none) (.str "gitcore.configs" 807) (.ref 750)
@[irreducible] noncomputable def IR(P:Params):Obj:=cA "push_url_of" "Configs.push_url_of" 1274 656 2 752 1280
@[irreducible] noncomputable def IQ(P:Params):Obj:=fo "push_url_of" "Configs.push_url_of" (bB 54 11) (.none) (.str "gitcore.configs" 807) (.ref 757)
@[irreducible] noncomputable def IP(P:Params):Obj:=cA "branch_of" "Configs.branch_of" 1283 660 2 759 1288
@[irreducible] noncomputable def IO(P:Params):Obj:=fo "branch_of" "Configs.branch_of" (bB 54 12) (.none) (.str "gitcore.configs" 807) (.ref 764)
@[irreducible] noncomputable def IN(P:Params):Obj:={cls:=.type "tuple",dict:=none,data:=.seq #[.str "fetch" 1291] 0}
@[irreducible] noncomputable def IM(P:Params):Obj:=cB "refspecs_of" "Configs.refspecs_of" 1292 663 3 767 1295
@[irreducible] noncomputable def IL(P:Params):Obj:=fo "refspecs_of" "Configs.refspecs_of" (bB 54 13) (.ref 766) (.str "gitcore.configs" 807) (.ref 770)
@[irreducible] noncomputable def IK(P:Params):Obj:=dk [de P "__module__" 1164 (.str "gitcore.configs" 807),de P "__firstlineno__" 1168 (.int 599 1167),de P "__init__" 1178 (.ref 681),de P "level" 1187 (.ref 688),de P "items" 1196 (.ref 695),de P "get_all" 1202 (.ref 700),de P "has" 1210 (.ref 707),de P "get" 1219 (.ref 714),de P "flag" 1228 (.ref 722),de P "number" 1238 (.ref 730),de P "subsections" 1251 (.ref 737),de P "url_by" 1264 (.ref 744),de P "url_of" 1273 (.ref 751),de P "push_url_of" 1282 (.ref 758),de P "branch_of" 1290 (.ref 765),de P "refspecs_of" 1297 (.ref 771),de P "__static_attributes__" 1301 (.ref 772),de P "__dict__" 1303 (.ref 775),de P "__weakref__" 1305 (.ref 776),de P "__doc__" 1306 (.none)] 4 (.type "dict")
@[irreducible] noncomputable def IJ(P:Params):Obj:={cls:=.type "type",dict:=none,data:=.cls {name:="Configs",bases:=[.type "object"],mro:=[.ref 774,.type "object"],ns:=773,qualname:="Configs",hasDict:=true,slotNames:=[],subclasses:=[],abstract:=false,collection:=none,hasDel:=false},slots:=#[none,none,some (.str "Configs" 1157),some (.str "Configs" 1165),some (.builtin "object.__new__"),some (.bool true)]}
@[irreducible] noncomputable def II(P:Params):Obj:=cA "__init__" "RefSpec.__init__" 1321 667 2 786 1328
@[irreducible] noncomputable def IH(P:Params):Obj:=fo "__init__" "RefSpec.__init__" (bB 55 0) (.none) (.str "gitcore.configs" 807) (.ref 791)
@[irreducible] noncomputable def IG(P:Params):Obj:=dk [de P "__module__" 1316 (.str "gitcore.configs" 807),de P "__firstlineno__" 1320 (.int 665 1319),de P "__init__" 1330 (.ref 792),de P "fits" 1338 (.ref 799),de P "mapped" 1346 (.ref 806),de P "back" 1354 (.ref 813),de P "__static_attributes__" 1361 (.ref 814),de P "__dict__" 1363 (.ref 817),de P "__weakref__" 1365 (.ref 818),de P "__doc__" 1366 (.none)] 4 (.type "dict")
@[irreducible] noncomputable def IF(P:Params):Obj:={cls:=.type "type",dict:=none,data:=.cls {name:="RefSpec",bases:=[.type "object"],mro:=[.ref 816,.type "object"],ns:=815,qualname:="RefSpec",hasDict:=true,slotNames:=[],subclasses:=[],abstract:=false,collection:=none,hasDel:=false},slots:=#[none,none,some (.str "RefSpec" 1309),some (.str "RefSpec" 1317),some (.builtin "object.__new__"),some (.bool true)]}
@[irreducible] noncomputable def IE(P:Params):Obj:=cA "refspec_side" "refspec_side" 1369 691 1 821 1374
@[irreducible] noncomputable def ID(P:Params):Obj:=fo "refspec_side" "refspec_side" (bg 56) (.none) (.str "gitcore.configs" 807) (.ref 826)
@[irreducible] noncomputable def IB(P:Params):Obj:={cls:=.type "tuple",dict:=none,data:=.seq #[.none,.str "" 1390,.str "true" 1391,.str "YES" 1392,.str "on" 1393,.str "false" 1394,.str "No" 1395,.str "off" 1396,.str "0" 1397,.str "7" 1398,.str "2k" 1399,.str "-1m" 1400,.str "0x1F" 1401,.str "010" 1402,.str "08" 1403,.str "maybe" 1404,.str "3g" 1405,.str "1 2" 1406,.str "9223372036854775807" 1407,.str "9223372036854775808" 1408,.str "+5" 1409] 0}
@[irreducible] noncomputable def Iz(P:Params):Obj:={cls:=.type "tuple",dict:=none,data:=.seq #[.str "core" 1411,.none] 0}
@[irreducible] noncomputable def Iy(P:Params):Obj:={cls:=.type "tuple",dict:=none,data:=.seq #[.str "Core" 1412,.none] 0}
@[irreducible] noncomputable def Ix(P:Params):Obj:={cls:=.type "tuple",dict:=none,data:=.seq #[.str "remote" 1413,.str "origin" 1414] 0}
@[irreducible] noncomputable def Iw(P:Params):Obj:={cls:=.type "tuple",dict:=none,data:=.seq #[.str "remote" 1415,.str "Mine" 1416] 0}
@[irreducible] noncomputable def Iu(P:Params):Obj:={cls:=.type "tuple",dict:=none,data:=.seq #[.str "branch" 1417,.str "main" 1418] 0}
@[irreducible] noncomputable def Iq(P:Params):Obj:={cls:=.type "tuple",dict:=none,data:=.seq #[.ref 836,.ref 837,.ref 838,.ref 839,.ref 840] 0}
@[irreducible] noncomputable def Ip(P:Params):Obj:={cls:=.type "tuple",dict:=none,data:=.seq #[.str "git://a/" 1420,.str "A:" 1421] 0}
@[irreducible] noncomputable def Io(P:Params):Obj:={cls:=.type "tuple",dict:=none,data:=.seq #[.str "git://b/" 1422,.str "A:x/" 1423] 0}
@[irreducible] noncomputable def Im(P:Params):Obj:={cls:=.type "tuple",dict:=none,data:=.seq #[.str "ssh://c/" 1424,.str "B" 1425] 0}
@[irreducible] noncomputable def Il(P:Params):Obj:={cls:=.type "tuple",dict:=none,data:=.seq #[.ref 842,.ref 843,.ref 844] 0}
@[irreducible] noncomputable def Ik(P:Params):Obj:=cB "_law_deck" "_law_deck" 1427 710 1 846 1430
@[irreducible] noncomputable def Ij(P:Params):Obj:=fo "_law_deck" "_law_deck" (bg 62) (.none) (.str "law_pb0131_01" 1388) (.ref 849)
@[irreducible] noncomputable def Ii(P:Params):Obj:=cA "_law_draw" "_law_draw" 1433 715 2 851 1438
@[irreducible] noncomputable def Ih(P:Params):Obj:=fo "_law_draw" "_law_draw" (bg 63) (.none) (.str "law_pb0131_01" 1388) (.ref 856)
@[irreducible] noncomputable def Ig(P:Params):Obj:=cA "_law_pick" "_law_pick" 1441 720 2 858 1446
@[irreducible] noncomputable def Ie(P:Params):Obj:=fo "_law_pick" "_law_pick" (bg 64) (.none) (.str "law_pb0131_01" 1388) (.ref 863)
@[irreducible] noncomputable def Id(P:Params):Obj:=cA "_law_row" "_law_row" 1449 722 1 865 1458
@[irreducible] noncomputable def Ic(P:Params):Obj:=fo "_law_row" "_law_row" (bg 65) (.none) (.str "law_pb0131_01" 1388) (.ref 870)
@[irreducible] noncomputable def Ib(P:Params):Obj:=cB "_law_file" "_law_file" 1461 733 1 872 1464
@[irreducible] noncomputable def H9(P:Params):Obj:=fo "_law_file" "_law_file" (bg 66) (.none) (.str "law_pb0131_01" 1388) (.ref 875)
@[irreducible] noncomputable def H8(P:Params):Obj:=cB "_law_small" "_law_small" 1467 739 1 877 1470
@[irreducible] noncomputable def H7(P:Params):Obj:=fo "_law_small" "_law_small" (bg 67) (.none) (.str "law_pb0131_01" 1388) (.ref 880)
@[irreducible] noncomputable def H6(P:Params):Obj:=cA "_law_key" "_law_key" 1473 741 3 882 1480
@[irreducible] noncomputable def H4(P:Params):Obj:=fo "_law_key" "_law_key" (bg 68) (.none) (.str "law_pb0131_01" 1388) (.ref 887)
@[irreducible] noncomputable def H2(P:Params):Obj:=cA "_law_figures" "_law_figures" 1483 744 2 889 1491
@[irreducible] noncomputable def H1(P:Params):Obj:=fo "_law_figures" "_law_figures" (bg 69) (.none) (.str "law_pb0131_01" 1388) (.ref 894)
@[irreducible] noncomputable def H0(P:Params):Obj:=cA "_law_number" "_law_number" 1494 752 1 896 1502
@[irreducible] noncomputable def HZ(P:Params):Obj:=fo "_law_number" "_law_number" (bg 70) (.none) (.str "law_pb0131_01" 1388) (.ref 901)
@[irreducible] noncomputable def HY(P:Params):Obj:=cA "_law_truth" "_law_truth" 1505 765 1 903 1511
@[irreducible] noncomputable def HV(P:Params):Obj:=fo "_law_truth" "_law_truth" (bg 71) (.none) (.str "law_pb0131_01" 1388) (.ref 908)
@[irreducible] noncomputable def HU(P:Params):Obj:=cA "_law_heard" "_law_heard" 1514 771 1 910 1519
@[irreducible] noncomputable def HT(P:Params):Obj:=fo "_law_heard" "_law_heard" (bg 72) (.none) (.str "law_pb0131_01" 1388) (.ref 915)
@[irreducible] noncomputable def HQ(P:Params):Obj:=cB "_law_keys_right" "_law_keys_right" 1522 778 2 917 1525
@[irreducible] noncomputable def HO(P:Params):Obj:=fo "_law_keys_right" "_law_keys_right" (bg 73) (.none) (.str "law_pb0131_01" 1388) (.ref 920)
@[irreducible] noncomputable def HN(P:Params):Obj:=cA "_law_by" "_law_by" 1528 793 3 922 1539
@[irreducible] noncomputable def HM(P:Params):Obj:=fo "_law_by" "_law_by" (bg 74) (.none) (.str "law_pb0131_01" 1388) (.ref 927)
@[irreducible] noncomputable def HL(P:Params):Obj:=cA "_law_urls_right" "_law_urls_right" 1542 800 2 929 1551
@[irreducible] noncomputable def HK(P:Params):Obj:=fo "_law_urls_right" "_law_urls_right" (bg 75) (.none) (.str "law_pb0131_01" 1388) (.ref 934)
@[irreducible] noncomputable def HJ(P:Params):Obj:=cB "_law_remotes_right" "_law_remotes_right" 1554 808 2 936 1557
@[irreducible] noncomputable def HI(P:Params):Obj:=fo "_law_remotes_right" "_law_remotes_right" (bg 76) (.none) (.str "law_pb0131_01" 1388) (.ref 939)
@[irreducible] noncomputable def HF(P:Params):Obj:=cB "law" "law" 1560 828 1 941 1563
@[irreducible] noncomputable def HE(P:Params):Obj:=fo "law" "law" (bg 77) (.none) (.str "law_pb0131_01" 1388) (.ref 944)
@[irreducible] noncomputable def um(P:Params):Obj:={cls:=.none,dict:=none,data:=.fields #[]}
noncomputable def xk(P:Params):List Obj:=[Pg P,NX P,NW P,NV P,NU P,NT P,NS P,NR P,NQ P,NP P,NO P,NN P,NM P,NL P,NK P,KJ P,KH P,KG P,KD P,KA P,Kz P,Ky P,Kx P,Kw P,Kv P,Ku P,Kt P,Ks P,Kr P,Kq P,Kp P,Ko P,Kn P,Km P,Kl P,Kk P,Kj P,Ki P,Kh P,Kg P,Kf P,Ke P,Kc P,Kb P,Ka P,J9 P,J8 P,J7 P,J6 P,J5 P,J4 P,J3 P,J2 P,J1 P,J0 P,JZ P,JY P,JX P,JW P,JV P,JU P,JT P,JS P,JR P,JQ P,JP P,JO P,JN P,JM P,JL P,JK P,JJ P,JI P,JH P,JG P,JF P,JE P,JD P,JC P,JB P,JA P,Jz P,Jy P,Jx P,Jw P,Jv P,Ju P,Jt P,Js P,Jr P,Jq P,Jp P,Jo P,Jn P,Jm P,Jl P,Jk P,Jj P,Ji P,Jh P,Jg P,Jf P,Je P,Jd P,Jc P,Jb P,Ja P,IZ P,IY P,IX P,IW P,IV P,IU P,IT P,IS P,IR P,IQ P,IP P,IO P,IN P,IM P,IL P,IK P,IJ P,II P,IH P,IG P,IF P,IE P,ID P,IB P,Iz P,Iy P,Ix P,Iw P,Iu P,Iq P,Ip P,Io P,Im P,Il P,Ik P,Ij P,Ii P,Ih P,Ig P,Ie P,Id P,Ic P,Ib P,H9 P,H8 P,H7 P,H6 P,H4 P,H2 P,H1 P,H0 P,HZ P,HY P,HV P,HU P,HT P,HQ P,HO P,HN P,HM P,HL P,HK P,HJ P,HI P,HF P,HE P,um P]
end
set_option backward.match.sparseCases false
noncomputable section
@[irreducible] noncomputable def qv:Program:=view pw [77]
@[irreducible] noncomputable def lM:List Str:=("_wall":Str):: ("GitError":Str):: ("BadObject":Str):: ("BadConfig":Str):: ("octets_of":Str):: ("CONFIG_WHITE":Str):: ("CONFIG_ESCAPES":Str):: ("config_is_letter":Str):: ("config_is_sign":Str):: ("config_name":Str):: ("config_section":Str):: ("config_key":Str):: ("config_header":Str):: ("quote_value":Str):: ("config_row":Str):: ("bool_of":Str):: ("config_figures":Str):: ("int_of":Str):: ("path_of":Str):: ("ConfigPiece":Str):: ("ConfigReader":Str):: ("MATCHING_SLASH":Str):: ("MATCHING_BACKSLASH":Str):: ("MATCHING_STAR":Str):: ("MATCHING_LITERAL":Str):: ("MATCHING_ONE":Str):: ("MATCHING_SET":Str):: ("MATCHING_RUN":Str):: ("MATCHING_DEEP":Str):: ("MATCHING_FOLDERS":Str):: ("MATCHING_CLASSES":Str):: ("matching_other":Str):: ("matching_sign":Str):: ("matching_class":Str):: ("matching_bracket":Str):: ("matching_stars":Str):: ("matching_tokens":Str):: ("matching_within":Str):: ("matching_one":Str):: ("matching_step":Str):: ("matching_runs":Str):: ("wildmatch":Str):: ("CONFIG_MOST_INCLUDES":Str):: ("Config":Str):: ("ConfigFacts":Str):: ("config_condition":Str):: ("config_folder":Str):: ("config_included":Str):: ("ConfigLevel":Str):: ("config_no_file":Str):: ("Configs":Str):: ("RefSpec":Str):: ("refspec_side":Str):: ("refspec_rest":Str):: ("_law_values":Str):: ("_law_heads":Str):: ("_law_bases":Str):: ("_law_deck":Str):: ("_law_draw":Str):: ("_law_pick":Str):: ("_law_row":Str):: ("_law_file":Str):: ("_law_small":Str):: ("_law_key":Str):: ("_law_figures":Str):: ("_law_number":Str):: ("_law_truth":Str):: ("_law_heard":Str):: ("_law_keys_right":Str):: ("_law_by":Str):: ("_law_urls_right":Str):: ("_law_remotes_right":Str):: []
noncomputable def OY{α:Type}(_:α):Bool:=true
@[irreducible] noncomputable def kq(P:Params)(s:Shared):Bool:=staticsOk (importedModules pw.main.body) (boot_heap P) s.heap&&namesBound pw s.heap&&gensDone s&&laidKept (boot_heap P) s.heap
@[irreducible] noncomputable def lY(s:Shared):=openSeen qv lM (importedModules pw.main.body) (fun _=>true) true s
@[irreducible] noncomputable def mo:=openGood qv lM
end
set_option backward.match.sparseCases true
noncomputable section
theorem big(w:World)(os:OsState)(pos:Pos)(b:List Stmt):
  (segRunT treeTable pw w 11 (some (.ref 6)) 1 4000 (GK w os b) (piecesOf qc c6 (.body b c6) pos [topFrame qz])).map (fun r=>
    (r.1,r.2.2.1,r.2.1.n,r.2.1.life,r.2.1.gens,r.2.1.drawn,r.2.1.os,((Ei.map fun a=>(r.2.1.tree.get a).bind alive),(([0,1,4,5,7,8,9,10].map fun a=>(r.2.1.tree.get a).bind alive),(kq w.params r.2.1.abs,lY r.2.1.abs)))))=
  some (.next,Code.body b c6,946,{},#[],{},os,((xk w.params).map some,([some (boot_o_0 w.params),some (boot_o_1 w.params),some (boot_o_4 w.params),some (boot_o_5 w.params),some (boot_o_7 w.params),some (boot_o_8 w.params),some (boot_o_9 w.params),some (boot_o_10 w.params)],(true,mo)))):=by
 delta piecesOf
 rw [Fast.te10110043849684766642,Fast.te14364793385576792824,Fast.te12563942051412417395]
 kernel_rfl
end
set_option backward.match.sparseCases false
noncomputable section
noncomputable def xj:List Nat:=[0,1,4,5,7,8,9,10]
noncomputable def oQ(P:Params):List Obj:=[boot_o_0 P,boot_o_1 P,boot_o_4 P,boot_o_5 P,boot_o_7 P,boot_o_8 P,boot_o_9 P,boot_o_10 P]
structure Be(w:World)(os:OsState)(s:Shared):Prop where
 gens:s.gens= #[]
 drawn:s.drawn= {}
 os:s.os=os
 life:s.heap.life= {}
 size:s.heap.objs.size=946
 objs: ∀a o,(a,o)∈Ei.zip (xk w.params)→s.heap.get? a=some o
 old: ∀a o,(a,o)∈xj.zip (oQ w.params)→s.heap.get? a=some o
 looks:kq w.params s=true
 sees:lY s=mo
theorem zip_get{t:Nat→Option Obj}(as:List Nat): ∀(os:List Obj),as.map t=os.map some→∀a o,(a,o)∈as.zip os→t a=some o:=by
 induction as with
 |nil=>exact fun _ _ _ _ h=>absurd h List.not_mem_nil
 |cons x as ih=>
  intro os e a o h
  cases os with
  |nil=>exact absurd h List.not_mem_nil
  |cons y os=>
   obtain ⟨e1,e2⟩:=List.cons.inj e;exact (List.mem_cons.mp h).elim (fun q=>by rw [show a=x from congrArg Prod.fst q,show o=y from congrArg Prod.snd q];exact e1) fun h=>ih os e2 a o h
theorem kM{t:BT}{n:Nat}{l:Life}{a:Nat}{o:Obj}(h:(t.get a).bind alive=some o)(ha:a<n):(absHeap t n l).get? a=some o:=by
 refine Classical.byContradiction fun no=> ?_;obtain ⟨o',h1,h2⟩:=Option.bind_eq_some_iff.mp h;refine no ?_;clear no;rw [abs_get ha h1,h2]
theorem FT:(Ei.all fun a=>Nat.blt a 946)=true:=by kernel_rfl
theorem Bf(w:World)(os:OsState)(b:List Stmt)(pos:Pos):
  Sem.wp (model pw w) (cN (.body b c6) qz) (execs qc c6) (fun _ _ s'=>Be w os s') (fun _ _ _=>False) pos (GK w os b).abs:=by
 refine Classical.byContradiction fun no=> ?_;obtain ⟨⟨f,T,c',p'⟩,h,e⟩:=Option.map_eq_some_iff.mp (big w os pos b);simp only [Prod.mk.injEq] at e;obtain ⟨rfl,rfl,e1,e2,e3,e4,e5,e6,e7,e8,e9⟩:=e;refine no ?_;clear no;have h':=segRun_of h;have k:topRun treeTable pw w 11 (some (.ref 6)) (4000+3) (GK w os b).abs (restOf (qc++ []) c6 (.body b c6) pos [topFrame qz])=some T.abs:=piece_app h' (Hh _ _ _ _ _);rw [List.append_nil, ←table_eq_tree] at k;have hg:T.abs.gens= #[]:=e3;refine Sem.wp_mono _ _ _ (fun _ _ s' x=> ?_) (fun _ _ _ x=>x) _ _ (jQ hg k);subst x;have hl: ∀a∈Ei,a<946:=fun a ha=>Nat.blt_eq.mp (List.all_eq_true.mp FT a ha);refine ⟨hg,e4,e5,e2, ?_,fun a o hm=> ?_,fun a o hm=> ?_,e8,e9⟩
 ·show (absHeap T.tree T.n T.life).objs.size=946
  rw [absHeap_size,e1]
 ·have:=zip_get Ei (xk w.params) e6 a o hm
  exact kM this (e1▸hl a (List.of_mem_zip hm).1)
 ·have:=zip_get xj (oQ w.params) e7 a o hm
  refine kM this (e1▸ ?_);have:=(List.of_mem_zip hm).1;simp only [xj,List.mem_cons,List.not_mem_nil,or_false] at this;lia
theorem Bg(w:World)(os:OsState)(b:List Stmt):
  Sem.wp (model pw w) (cN (.body b c6) qz) (execs (behindTheImports pw) c6) (fun _ _ s'=>Be w os s') (fun _ _ _=>False) qz (Sb w os).abs:=by
 rw [CE];refine gA _ _ _ _ (Sem.wp_mono _ _ _ (fun f p' s' x=>⟨x.1, ?_⟩) (fun _ _ _ x=>x) _ _ (EL w os b));rw [x.2];refine gA _ _ _ _ (Sem.wp_mono _ _ _ (fun f p' s' x=>⟨x.1, ?_⟩) (fun _ _ _ x=>x) _ _ (Ny w os b (.body b c6) qz p'));rw [x.2];exact Bf w os b p'
end
set_option backward.match.sparseCases false
noncomputable section
noncomputable abbrev bE:List Stmt:=behindTheImports pw
noncomputable def s0(w:World)(os:OsState):Shared:=⟨boot_heap w.params,#[],boot_drawn,boot_toks,os⟩
theorem Bs(w:World)(os:OsState):topGo treeTable pw w 11 (some (.ref 6)) 12 (s0 w os) (topStub pw)=some ((Sb w os).abs,⟨denote treeTable (.body bE c6),.body bE c6,qz,[topFrame qz]⟩):=by
 delta s0 Sb SharedT.abs
 kernel_rfl
theorem pG:blockStart bE c6=pure ():=by kernel_rfl
theorem wJ:denote treeTable (.body bE c6)= (execs bE c6).wrap doneF (leaveH c6) id id:=by
 rw [body_wrap,pG];rfl
theorem tF:opening pw=plainProg pw.main.scope.names:=by kernel_rfl
theorem zU(s:Shared):fenceModules? pw s=some s:=by kernel_rfl
theorem mV(P:Params):(boot_heap P).isNs mainGlobals=true∧(boot_heap P).objs.size=11∧(boot_heap P).nsMap mainGlobals "__annotations__"=some (.ref 6):=by
 refine ⟨by kernel_rfl,by kernel_rfl,by kernel_rfl⟩
end
set_option backward.match.sparseCases false
noncomputable section
theorem tx{p:Program}{w:World}{l:List Stmt}{env:Env}{c:Code}{pos q:Pos}{s:Shared}{Φ:Shared→Prop}(hg: ∀s,Φ s→s.gens= #[])
  (h:Sem.wp (model p w) (cN c q) (execs l env) (fun _ _ s'=>Φ s') (fun _ _ _=>False) pos s):
  ∃s₁,Φ s₁∧∃k,PySem.runN (denote table) p w k s (restOf l env c pos [topFrame q])= .halted (.done (.ret .none)) s₁∧∀j s₂ t₂,PySem.runN (denote table) p w j s (restOf l env c pos [topFrame q])= .running s₂ t₂→t₂.calm=true:=by
 refine Classical.byContradiction fun no=> ?_;obtain ⟨e,s'',hR,he,hs⟩:=runs_wrap_of_wp (M:=model p w) (Γ:=⟨c,none,none,[],none⟩) (fs:=[topFrame q]) (Φ:=fun e s''=>e= .ret (.ok (.ret .none))∧Φ s'') doneF (leaveH env) id id (execs l env) h
  (fun a p' s' hs=>⟨.ret (.ok (.ret .none)),s',Runs.pop (.ok a) (show Runs (model p w) _ _ (.pure (.done (.ret .none))) [] s' _ _ from .done),rfl,hs⟩) (fun _ _ _ x=>x.elim)
 subst he;have hc:leftWithCleanup s''.gens=false:=by rw [hg _ hs];decide+kernel
 obtain ⟨n,hn⟩:=halts_iff.mpr ⟨hR,hc⟩;obtain ⟨k,s₂,hk,hf,jl⟩:=(halts_real_iff (M:=model p w) (r:=.ok (.ret .none)) s''.forget).mpr ⟨n,s'',hn,rfl⟩;have:s₂=s'':=Shared.eq_of_forget_eq hf (hg _ hs);subst this;refine no ?_;clear no;exact ⟨_,hs,k,hk,jl⟩
theorem CA(b:Nat)(hb:b<11)(h3:b≠3)(h2:b≠2)(h6:b≠6):b=0∨b=1∨b=4∨b=5∨b=7∨b=8∨b=9∨b=10:=
 have key: ∀b:Fin 11,b.1=3∨b.1=2∨b.1=6∨b.1=0∨b.1=1∨b.1=4∨b.1=5∨b.1=7∨b.1=8∨b.1=9∨b.1=10:=by decide+kernel
 (((key ⟨b,hb⟩).resolve_left h3).resolve_left h2).resolve_left h6
theorem Fb(P:Params)(b:Addr)(o:Obj)(h:(boot_heap P).get? b=some o)(h3:b≠3)(h2:b≠2)(h6:b≠6):(b,o)∈xj.zip (oQ P):=by
 have hb:b<11:=Heap.lt_size h;have key: ∀n o',(boot_heap P).get? n=some o'→b=n→o=o':=fun n o' e q=>by subst q;exact Option.some.inj (h.symm.trans e)
 simp only [xj,oQ,List.zip_cons_cons,List.zip_nil_right,List.mem_cons,Prod.mk.injEq,List.not_mem_nil,or_false];have:b=0∨b=1∨b=4∨b=5∨b=7∨b=8∨b=9∨b=10:=CA b hb h3 h2 h6;rcases this with q|q|q|q|q|q|q|q
 ·exact .inl ⟨q,key 0 _ rfl q⟩
 ·exact .inr (.inl ⟨q,key 1 _ rfl q⟩)
 ·exact .inr (.inr (.inl ⟨q,key 4 _ rfl q⟩))
 ·exact .inr (.inr (.inr (.inl ⟨q,key 5 _ rfl q⟩)))
 ·exact .inr (.inr (.inr (.inr (.inl ⟨q,key 7 _ rfl q⟩))))
 ·exact .inr (.inr (.inr (.inr (.inr (.inl ⟨q,key 8 _ rfl q⟩)))))
 ·exact .inr (.inr (.inr (.inr (.inr (.inr (.inl ⟨q,key 9 _ rfl q⟩))))))
 ·exact .inr (.inr (.inr (.inr (.inr (.inr (.inr ⟨q,key 10 _ rfl q⟩))))))
theorem wF:chainsOk qv=true:=by kernel_rfl
theorem vd(w:World):(∃s,AfterRun (opening pw) w s)∧∀s,AfterRun (opening pw) w s→∃s₀,fenceModules? pw s=some s₀∧s₀.gens= #[]∧∃s₁,TopRan pw w s₀ s₁∧s₁.asleep∧s₁.heap.isNs mainGlobals=true∧Be w s₀.os s₁∧
  Ground qv lM [] (fun _ _=>True) w s₁ (s₁.heap.nsMap mainGlobals) (s₁.heap.nsMap builtinsNs) s₁.heap:=by
 have h0:=boot_open (p:=pw) (N:=600) tF (by decide) zU w;rw [←table_eq_tree] at h0;refine Classical.byContradiction fun no=> ?_;obtain ⟨s₀,h1,e0⟩:=Option.map_eq_some_iff.mp h0;obtain ⟨s,h4,h5⟩:=Option.bind_eq_some_iff.mp h1;refine no ?_;clear no;have A:=AfterImport.of_importEnds h4;refine ⟨⟨s,A⟩,fun s' iN=> ?_⟩;refine Classical.byContradiction fun no=> ?_;obtain rfl:s'=s:=AfterImport.unique iN A;have z:s₀.asleep:=Shared.asleep_of_life (fence_lifeW h5) A.life;simp only [Prod.mk.injEq] at e0;obtain ⟨e1,e2,e3,e4⟩:=e0;obtain ⟨heap,gens,drawn,toks,os⟩:=s₀;refine no ?_;clear no;dsimp only at e1 e2 e3 e4;refine Classical.byContradiction fun no=> ?_;subst e1 e2 e3 e4;obtain ⟨s₁,F,k,hk,jl⟩:=tx (Φ:=Be w os) (fun s h=>h.gens) (Bg w os bE);have PK:=Bs w os;rw [←wJ.symm, ←table_eq_tree] at PK;obtain ⟨k',MV,Fw⟩:=nA (o:=.done (.ret .none)) (s₁:=s₁) _ _ _ PK ⟨k,hk,jl⟩;obtain ⟨m,t₁,hm,ht⟩:=rz _ _ _ z MV Fw;have hl:s₁.heap.life= (boot_heap w.params).life:=F.life.trans rfl;have hL:=F.looks;unfold kq at hL;simp only [Bool.and_eq_true] at hL;obtain ⟨⟨⟨l1,l2⟩,l3⟩,l4⟩:=hL;have hS:=F.sees;unfold lY mo at hS;obtain ⟨G,g0,g1,g2,g3,g4,g5⟩:=ground_of_open (w:=w) (XP:=fun _ _=>True) (fun _ _=>trivial) wF hS;refine no ?_;clear no;have MY:=(mV w.params).1;refine ⟨_,h5,rfl,s₁,⟨⟨m,t₁,hm,ht⟩,hl,Shared.rest_eq F.os,fun b o hb hn=> ?_,g2,statics_of_ok l1,g3,g4,g5,gens_of_done l3,names_of_bound l2,laid_of_kept l4⟩,Shared.asleep_of_life hl z,g1,F,G⟩;refine F.old b o (Fb _ b o hb (fun q=>hn (.inl q)) (fun q=>hn (.inr (.inl q))) fun q=>hn (.inr (.inr ?_)));rw [Pin.globalOf_eq MY,q];exact (mV w.params).2.2
end
set_option backward.match.sparseCases true
noncomputable def xc(w:World)(h:Heap):Prop:=∀a o,(a,o)∈Ei.zip (xk w.params)→h.get? a=some o
abbrev dz:OpenRow:=PySem.Challenge.rw_pb0131_01.row
noncomputable def DT:Prop:=∀(w:World) (s₀ s₁:Shared) (mg mb:Str→Option Value),Ground qv lM [] (fun _ _=>True) w s₀ mg mb s₁.heap→xc w s₁.heap→s₁.gens= #[]→∀(args:List WData) (vals:List Value) (as:List Addr),
  dz.claim.pre args=true→WData.layableAll args=true→ReadsAllW [] (classAt s₀.heap) s₁.heap vals args as→WellAll w.params s₁.heap vals args→(∀a∈as,(a==sysModules)=false)→(∀xs l,args= [.list xs]→vals= [.ref l]→∃vs n,s₁.heap.get? l=some ⟨.type "list",none,.seq vs n,#[]⟩)→
   wpAny (model pw w) callerA (PySem.call (.ref 945) vals) (fun v s'=>v= .bool true∧OldK s₁.heap s'.heap∧s'.os=s₁.os∧AllBare s'.gens) (fun _ _=>False) s₁
theorem tK{w:World}{h:Heap}(K:xc w h):h.nsMap mainGlobals "law"=some (.ref 945):=by
 have h3:=K 3 (Pg w.params) (List.mem_of_getElem? (i:=0) (by kernel_rfl));unfold Heap.nsMap mainGlobals;rw [h3]
 kernel_rfl
theorem pn:(defOf qv "law").isSome=true:=by kernel_rfl
noncomputable def vu:DefRec:=((defOf qv "law").get pn).1
noncomputable def Dz:List (Str×Expr):=((defOf qv "law").get pn).2
theorem B8:defOf qv "law"=some (vu,Dz):=(Option.some_get pn).symm
theorem B6:pw.theDef "law"=some (vu.params,vu.body,vu.scope):=by kernel_rfl
theorem Fi:kwWritten? vu.params.kwonlyargs vu.params.kw_defaults=some Dz:=by kernel_rfl
theorem BK{R:WRecords}{cl:Str→Option Addr}{h:Heap}:ReadsW R cl h (.bool true) (.bool true) []:=by
 first|exact .bool|exact ReadsW.bool .. |constructor
theorem vZ(args:List WData):dz.claim.post args (.bool true) args=true:=by
 kernel_rfl
theorem wj{R:WRecords}{cl:Str→Option Addr}{P:Params}{ord:List DictEntry→List DictEntry}{xs:List WData}{s s':Shared}{l:Addr}(h:layAllW R cl P ord [.list xs] s=some ([.ref l],s')): ∃vs n,s'.heap.get? l=some ⟨.type "list",none,.seq vs n,#[]⟩:=by
 obtain ⟨a,q,ha,hq,e⟩:=layAllW_cons h;obtain ⟨q1,_,rfl⟩:=layW_list ha;obtain rfl:_=q:=Option.some.inj hq;obtain ⟨e1,rfl⟩:=Prod.mk.inj e;obtain rfl:l=_:=Value.ref.inj (List.cons.inj e1).1;exact ⟨_,_,Heap.get?_push_size _ rfl⟩
theorem Gl(ND:dz.wellSaid=true)(El:DT):dz.Holds:=by
 have hw:dz.toRowW.promised:=by
  w_witness2
 refine ⟨ND,hw,⟨⟨⟨rfl,rfl,rfl,rfl,rfl,by decide+kernel⟩,by decide+kernel,rfl⟩,hw.witness,fun w=>⟨(vd w).1,fun s hs=> ?_⟩⟩⟩;refine Classical.byContradiction fun no=> ?_;obtain ⟨s₀,hf,MY,s₁,T,z,hg,F,G⟩:=(vd w).2 s hs;refine no ?_;clear no;refine ⟨s₀,hf,MY,s₁,T,fun n hn=> ?_,(fun x hx=>nomatch hx),(fun x hx=>nomatch hx), ?_⟩
 ·obtain rfl:n="law":=by
   have:n∈ (if dz.pinned then [dz.name] else []):=hn;exact List.mem_singleton.mp this
  exact pinned_of_view hg G B8 B6 Fi
 refine ClaimW.callFrom_of_specG (c:=dz.claim) z F.gens fun args pX A0 ord G3=> ?_;refine Classical.byContradiction fun no=> ?_;obtain ⟨⟨vs,s₂⟩,nQ⟩:=Option.isSome_iff_exists.mp (layAllW_isSome (P:=w.params) (ord:=ord) G.has args dz.args s₁ (pre_splitW pX).1);have keeps:=layAllW_keeps _ _ _ nQ;have PW:=layAllW_rest _ _ _ nQ;obtain ⟨as,MJ,MW,Oa⟩:=reads_layAllW G3 _ _ _ nQ A0 s₂.heap (fun _ _ e=>e);refine no ?_;clear no;have L:Laid dz.records w s₁ s₂ args vs as:=⟨⟨ord,G3,nQ⟩,MJ,MW,Oa,keeps,PW.1.trans F.gens,PW.2.2.1⟩;have G₁:=G.keeps (fun _ _ _ _ _=>trivial) keeps;have K₁:xc w s₂.heap:=fun a o hm=>keeps _ _ (F.objs a o hm);have Q8:=El w s₁ s₂ _ _ G₁ K₁ L.gens args vs as pX A0 L.reads L.well (L.low G.low) (fun xs l e1 e2=>by subst e1;subst e2;exact wj nQ);refine ⟨vs,s₂,nQ, ?_⟩;have hi:=ident_freeW (r:=dz.toRowW) rfl rfl rfl;have hl:(s₁.heap.nsMap mainGlobals) "law"=some (.ref 945):=tK F.objs;have Oo: ∀v (s':Shared),(v= .bool true∧OldK s₂.heap s'.heap∧s'.os=s₂.os∧AllBare s'.gens)→GoodWG dz.claim (classAt s₁.heap) (ExcName.means s₁.heap) args s₂ (.ok (.ret v)) s':=fun v s' ⟨q,k,o,b⟩=>
  ⟨.inl ⟨v,.bool true,[],rfl,fun cls=>rfl,by subst q;exact BK,vZ args,fun _=>⟨List.nodup_nil,fun _ h=>nomatch h⟩⟩,k,o,b⟩
 have sq: ∀v (s':Shared),(v=Value.bool true∧OldK s₂.heap s'.heap∧s'.os=s₂.os∧AllBare s'.gens)→namesKept dz.claim.prog dz.keeps s₁.heap s'.heap:=fun v s' g=>namesKept_of T hg _ keeps g.2.1.old;show wpAny (model pw w) callerA (nsGet mainNs "law">>=fun x=>match x with
   |some f=>do ret (←PySem.call f vs)
   |none=>unsupported "claim.caller:no-such-global") _ _ s₂
 refine wpAny_bind (wpAny_nsGet G₁.T.g ?_);rw [hl];refine wpAny_bind (wpAny_mono Q8 (fun v s' g=> ?_) fun _ _ g=>g.elim);refine wpAny_pure ?_;have q:=GoodWG.laid (c:=dz.claim) rfl rfl hi L (Oo v s' g);exact ⟨_,rfl,q.1,q.2.1,q.2.2,fun TU=>⟨sq v s' g,fun x hx=>nomatch hx⟩⟩
set_option backward.match.sparseCases false
noncomputable def uC:Prop:=∀(w:World) (s₀ s:Shared) (mg mb:Str→Option Value),Ground qv lM [] (fun _ _=>True) w s₀ mg mb s.heap→xc w s.heap→s.gens= #[]→
 ∀(l:Addr) (vs:List Value) (ns:List Int) (n:Nat),s.heap.get? l=some ⟨.type "list",none,.seq vs.toArray n,#[]⟩→IntsAre vs ns→ns.length≤63→
  wpAny (model pw w) callerA (PySem.call (.ref 945) [.ref l]) (fun v s'=>v= .bool true∧OldK s.heap s'.heap∧s'.os=s.os∧AllBare s'.gens) (fun _ _=>False) s
theorem Lx(El:uC):DT:=by
 intro w s₀ s₁ mg mb G K xF args vals as pX A0 MJ Q7 Rz hx
 wrow_args pX A0 MJ Q7 Rz
 rename_i ns _ _ _ _ _ _ _ l vs _ hL _ _ _ hI _ aP _
 refine Classical.byContradiction fun no=> ?_;obtain ⟨AE,n,he⟩:=hx _ _ rfl rfl;obtain ⟨o,ho,_,n',hd⟩:=hL;refine no ?_;clear no;rw [he] at ho
 cases ho
 cases hd
 exact El w s₀ s₁ mg mb G K xF l vs ns _ he hI (by lia)
noncomputable def Fd:Nat→Bool:=fun a=> !(a==918)
@[irreducible] noncomputable def KF(P:Params):Frag:=(Ei.zip (xk P)).filter fun p=>Fd p.1
theorem Dx{κ β:Type}[BEq κ][LawfulBEq κ]{k m:κ}{v b:β}{r:List (κ×β)}{P:Prop}(e:((k,v)::r).lookup m=some b)(k1:m=k→v=b→P)(k2:r.lookup m=some b→P):P:=by
 rw [List.lookup_cons] at e
 cases q:m==k with
 |true=>rw [q] at e;exact k1 (eq_of_beq q) (Option.some.inj e)
 |false=>rw [q] at e;exact k2 e
theorem mem_of_lookup{κ β:Type}[BEq κ][LawfulBEq κ](l:List (κ×β))(a:κ)(o:β):l.lookup a=some o→(a,o)∈l:=by
 induction l with
 |nil=>exact fun h=>Option.noConfusion rfl (heq_of_eq h)
 |cons p r ih=>exact fun e=>Dx (k:=p.1) (v:=p.2) e (fun h1 h2=>h1▸h2▸ .head _) fun e=>.tail _ (ih e)
theorem kf_in{w:World}{h:Heap}(K:xc w h):(KF w.params).In h:=fun a o e=>by
 unfold KF at e;have h1:=mem_of_lookup _ a o e;rw [List.mem_filter] at h1;exact K a o h1.1
inductive D where
 |none
 |bool (b:Bool)
 |int (i:Int)
 |str (x:Str)
 |bytes (b:List UInt8)
 |tup (l:List D)
 |lst (l:List D)
 |inst (c:Addr) (fs:List (Str×D))
 |val (v:Value)
 deriving Inhabited
inductive At(h:Heap)(a:Addr)(cls:Value)(dict:Option Addr)(data:Data):Prop where
 |mk (sl:Array (Option Value)) (h1:h.get? a=some ⟨cls,dict,data,sl⟩) (h2:cls≠ .type "frame"→sl= #[])
theorem At.exact{h:Heap}{a:Addr}{c:Value}{d:Option Addr}{x:Data}(q:At h a c d x)(n:c≠ .type "frame":=by simp):h.get? a=some ⟨c,d,x,#[]⟩:=by
 obtain ⟨sl,e,z⟩:=q;rw [z n] at e;exact e
theorem At.of{h:Heap}{a:Addr}{c:Value}{d:Option Addr}{x:Data}(e:h.get? a=some ⟨c,d,x,#[]⟩):At h a c d x:=⟨_,e,fun _=>rfl⟩
theorem At.get{h:Heap}{a:Addr}{c:Value}{d:Option Addr}{x:Data}(q:At h a c d x): ∃sl,h.get? a=some ⟨c,d,x,sl⟩:=let ⟨sl,e,_⟩:=q;⟨sl,e⟩
theorem At.keep{h h':Heap}{a:Addr}{c:Value}{d:Option Addr}{x:Data}(q:At h a c d x)(k: ∀b o,h.get? b=some o→h'.get? b=some o):At h' a c d x:=let ⟨sl,e,z⟩:=q;⟨sl,k _ _ e,z⟩
theorem At.lt{h:Heap}{a:Addr}{c:Value}{d:Option Addr}{x:Data}(q:At h a c d x):a<h.objs.size:=let ⟨_,e,_⟩:=q;Heap.lt_size e
theorem At.same{h:Heap}{a:Addr}{c c':Value}{d d':Option Addr}{x x':Data}(q:At h a c d x)(q':At h a c' d' x'):c=c'∧d=d'∧x=x':=by
 refine Classical.byContradiction fun no=> ?_;obtain ⟨sl,e,_⟩:=q;obtain ⟨dQ,e',_⟩:=q';refine no ?_;clear no;rw [e] at e'
 cases e'
 exact ⟨rfl,rfl,rfl⟩
noncomputable def Tz(h:Heap)(a:Addr)(m:Str→Option Value):Prop:=∃es n,At h a (.type "dict") .none (.dict es n)∧StrKeys es∧∀name,nsFind es name=m name
theorem At.ns{h:Heap}{a:Addr}{c:Value}{d:Option Addr}{es:Array DictEntry}{n:Nat}(q:At h a c d (.dict es n))(k:StrKeys es):h.Ns a (nsFind es):=let ⟨_,e,_⟩:=q;⟨_,es,n,e,rfl,k,fun _=>rfl⟩
mutual
inductive aD(h:Heap)(M:Addr→Prop):Value→D→Prop where
 |none:aD h M .none .none
 |bool (b):aD h M (.bool b) (.bool b)
 |int (i t):aD h M (.int i t) (.int i)
 |str (x t):aD h M (.str x t) (.str x)
 |bytes (b t):aD h M (.bytes b t) (.bytes b.toList)
 |tup (a vs ds n):At h a (.type "tuple") Option.none (.seq vs n)→¬M a→an h M vs.toList ds→aD h M (.ref a) (.tup ds)
 |lst (a vs ds n):At h a (.type "list") Option.none (.seq vs n)→¬M a→an h M vs.toList ds→aD h M (.ref a) (.lst ds)
 |inst (a c d:Addr) (m:Str→Option Value) (g:Str→Value) (fs:List (Str×D)) (es:Array DictEntry) (n:Nat):At h a (.ref c) (some d) .plain→¬M a→At h d (.type "dict") Option.none (.dict es n)→StrKeys es→(∀name,nsFind es name=m name)→¬M d→
   (∀x,(∀y,fs.lookup x=some y→m x=some (g x))∧(fs.lookup x=Option.none→m x=Option.none))→(∀x y,fs.lookup x=some y→aD h M (g x) y)→aD h M (.ref a) (.inst c fs)
 |val (v):aD h M v (.val v)
inductive an(h:Heap)(M:Addr→Prop):List Value→List D→Prop where
 |nil:an h M [] []
 |cons (v d vs ds):aD h M v d→an h M vs ds→an h M (v::vs) (d::ds)
end
inductive jh(h:Heap)(M:Addr→Prop)(T:String)(v:Value)(ds:List D):Prop where
 |mk (a:Addr) (vs:Array Value) (n:Nat) (e:v= .ref a) (h1:At h a (.type T) Option.none (.seq vs n)) (h2: ¬M a) (h3:an h M vs.toList ds)
inductive DV(h:Heap)(M:Addr→Prop)(v:Value)(c:Addr)(fs:List (Str×D)):Prop where
 |mk (a d:Addr) (m:Str→Option Value) (g:Str→Value) (es:Array DictEntry) (n:Nat) (e:v= .ref a) (h1:At h a (.ref c) (some d) .plain) (h2: ¬M a) (h3:At h d (.type "dict") Option.none (.dict es n)) (h4:StrKeys es) (h5: ∀name,nsFind es name=m name) (h6: ¬M d)
   (h7: ∀x,(∀y,fs.lookup x=some y→m x=some (g x))∧(fs.lookup x=Option.none→m x=Option.none)) (h8: ∀x y,fs.lookup x=some y→aD h M (g x) y)
noncomputable def FZ(h:Heap)(M:Addr→Prop)(v:Value):D→Prop
 | .none=>v= .none
 | .bool b=>v= .bool b
 | .int i=>∃t,v= .int i t
 | .str x=>∃t,v= .str x t
 | .bytes b=>∃a t,v= .bytes a t∧b=a.toList
 | .tup ds=>jh h M "tuple" v ds
 | .lst ds=>jh h M "list" v ds
 | .inst c fs=>DV h M v c fs
 | .val w=>v=w
theorem aD.inv{h:Heap}{M:Addr→Prop}{v:Value}{d:D}(r:aD h M v d):FZ h M v d:=by
 cases r with
 |none=>exact rfl
 |bool=>exact rfl
 |int=>exact ⟨_,rfl⟩
 |str=>exact ⟨_,rfl⟩
 |bytes=>exact ⟨_,_,rfl,rfl⟩
 |tup a vs ds n h1 h2 h3=>exact ⟨_,_,_,rfl,h1,h2,h3⟩
 |lst a vs ds n h1 h2 h3=>exact ⟨_,_,_,rfl,h1,h2,h3⟩
 |inst a c d m g fs es n h1 h2 h3 h4 h5 h6 h7 h8=>exact ⟨_,_,_,_,_,_,rfl,h1,h2,h3,h4,h5,h6,h7,h8⟩
 |val=>exact rfl
theorem aD.int'{h:Heap}{M:Addr→Prop}{v:Value}{i:Int}(r:aD h M v (.int i)): ∃t,v= .int i t:=r.inv
theorem aD.str'{h:Heap}{M:Addr→Prop}{v:Value}{x:Str}(r:aD h M v (.str x)): ∃t,v= .str x t:=r.inv
theorem aD.lst'{h:Heap}{M:Addr→Prop}{v:Value}{l:List D}(r:aD h M v (.lst l)):jh h M "list" v l:=r.inv
theorem aD.tup'{h:Heap}{M:Addr→Prop}{v:Value}{l:List D}(r:aD h M v (.tup l)):jh h M "tuple" v l:=r.inv
theorem aD.val'{h:Heap}{M:Addr→Prop}{v x:Value}(r:aD h M v (.val x)):v=x:=r.inv
theorem aD.inst'{h:Heap}{M:Addr→Prop}{v:Value}{c:Addr}{fs:List (Str×D)}(r:aD h M v (.inst c fs)):DV h M v c fs:=r.inv
noncomputable def Et(x:Data):Prop:=∀vs,x≠ .fields vs
theorem aD.monoF{h h':Heap}{M M':Addr→Prop}(k: ∀a c d x,¬M a→Et x→At h a c d x→c≠ .none→At h' a c d x∧¬M' a){v:Value}{d:D}(r:aD h M v d):aD h' M' v d:=
 aD.rec (motive_1:=fun v d _=>aD h' M' v d) (motive_2:=fun vs ds _=>an h' M' vs ds) .none .bool .int .str .bytes
  (fun a vs ds n h1 h2 _ h3=>let q:=k _ _ _ _ h2 (fun _ e=>Data.noConfusion e) h1 (fun e=>Value.noConfusion e);.tup a vs ds n q.1 q.2 h3)
  (fun a vs ds n h1 h2 _ h3=>let q:=k _ _ _ _ h2 (fun _ e=>Data.noConfusion e) h1 (fun e=>Value.noConfusion e);.lst a vs ds n q.1 q.2 h3)
  (fun a c d m g fs es n h1 h2 h3 h4 h5 h6 h7 _ h8=>let q:=k _ _ _ _ h2 (fun _ e=>Data.noConfusion e) h1 (fun e=>Value.noConfusion e);let r:=k _ _ _ _ h6 (fun _ e=>Data.noConfusion e) h3 (fun e=>Value.noConfusion e)
   .inst a c d m g fs es n q.1 q.2 r.1 h4 h5 r.2 h7 h8) .val .nil (fun v d vs ds _ _ a b=>.cons v d vs ds a b) r
theorem aD.mono{h h':Heap}{M M':Addr→Prop}(k: ∀a c d x,¬M a→At h a c d x→c≠ .none→At h' a c d x∧¬M' a){v:Value}{d:D}(r:aD h M v d):aD h' M' v d:=
 aD.monoF (fun a c d x n _ q z=>k a c d x n q z) r
theorem an.ind{h:Heap}{M:Addr→Prop}{P:List Value→List D→Prop}(h0:P [] [])(h1: ∀v d vs ds,aD h M v d→an h M vs ds→P vs ds→P (v::vs) (d::ds)){vs:List Value}{ds:List D}(r:an h M vs ds):P vs ds:=
 an.rec (motive_1:=fun _ _ _=>True) (motive_2:=fun vs ds _=>P vs ds) ⟨⟩ (fun _=>⟨⟩) (fun _ _=>⟨⟩) (fun _ _=>⟨⟩) (fun _ _=>⟨⟩) (fun _ _ _ _ _ _ _ _=>⟨⟩) (fun _ _ _ _ _ _ _ _=>⟨⟩) (fun _ _ _ _ _ _ _ _ _ _ _ _ _ _ _ _ _=>⟨⟩) (fun _=>⟨⟩) h0 (fun _ _ _ _ a b _ c=>h1 _ _ _ _ a b c) r
theorem an.mono{h h':Heap}{M M':Addr→Prop}(k: ∀a c d x,¬M a→At h a c d x→c≠ .none→At h' a c d x∧¬M' a){vs:List Value}{ds:List D}(r:an h M vs ds):an h' M' vs ds:=
 an.ind (P:=an h' M') .nil (fun v d vs ds a _ b=>.cons v d vs ds (aD.mono k a) b) r
section
variable{h:Heap}{M:Addr→Prop}{vs:List Value}{ds:List D}
theorem an.length(r:an h M vs ds):vs.length=ds.length:=an.ind (P:=fun vs ds=>vs.length=ds.length) rfl (fun _ _ _ _ _ _ q=>congrArg (· +1) q) r
theorem an.append{AE:List Value}{nG:List D}(r:an h M vs ds)(q:an h M AE nG):an h M (vs++AE) (ds++nG):=
 an.ind (P:=fun vs ds=>an h M (vs++AE) (ds++nG)) q (fun v d _ _ a _ b=>.cons v d _ _ a b) r
inductive DW(h:Heap)(M:Addr→Prop)(vs:List Value)(d:D)(ds:List D):Prop where
 |mk (v:Value) (r:List Value) (e:vs=v::r) (h1:aD h M v d) (h2:an h M r ds)
noncomputable def C7(h:Heap)(M:Addr→Prop)(vs:List Value):List D→Prop
 |[]=>vs= []
 |d::ds=>DW h M vs d ds
theorem an.inv(r:an h M vs ds):C7 h M vs ds:=by
 cases r with
 |nil=>exact rfl
 |cons v d vs ds a b=>exact ⟨v,vs,rfl,a,b⟩
theorem an.nil'(r:an h M vs []):vs= []:=r.inv
theorem an.cons'{d:D}(r:an h M vs (d::ds)):DW h M vs d ds:=r.inv
theorem an.get(r:an h M vs ds): ∀(i:Nat) (d:D),ds[i]? =some d→∃v,vs[i]? =some v∧aD h M v d:=
 an.ind (P:=fun vs ds=>∀(i:Nat) (d:D),ds[i]? =some d→∃v,vs[i]? =some v∧aD h M v d) (fun _ _ e=>nomatch e) (fun v d _ _ a _ b i=>match i with
  |0=>fun _ e=>Option.some.inj e▸⟨v,rfl,a⟩
  |i+1=>b i) r
theorem an.get'(r:an h M vs ds): ∀(i:Nat) (v:Value),vs[i]? =some v→∃d,ds[i]? =some d∧aD h M v d:=
 an.ind (P:=fun vs ds=>∀(i:Nat) (v:Value),vs[i]? =some v→∃d,ds[i]? =some d∧aD h M v d) (fun _ _ e=>nomatch e) (fun v d _ _ a _ b i=>match i with
  |0=>fun _ e=>Option.some.inj e▸⟨d,rfl,a⟩
  |i+1=>b i) r
theorem an.take(r:an h M vs ds): ∀n:Nat,an h M (vs.take n) (ds.take n):=
 an.ind (P:=fun vs ds=>∀n:Nat,an h M (vs.take n) (ds.take n)) (fun n=>match n with|0=>.nil|_+1=>.nil) (fun v d _ _ a _ b n=>match n with
  |0=>.nil
  |n+1=>.cons v d _ _ a (b n)) r
theorem an.drop(r:an h M vs ds): ∀n:Nat,an h M (vs.drop n) (ds.drop n):=
 an.ind (P:=fun vs ds=>∀n:Nat,an h M (vs.drop n) (ds.drop n)) (fun n=>match n with|0=>.nil|_+1=>.nil) (fun v d _ _ a c b n=>match n with
  |0=>.cons v d _ _ a c
  |n+1=>b n) r
theorem an.reverse(r:an h M vs ds):an h M vs.reverse ds.reverse:=
 an.ind (P:=fun vs ds=>an h M vs.reverse ds.reverse) .nil (fun v d _ _ a _ b=>by rw [List.reverse_cons,List.reverse_cons];exact b.append (.cons v d _ _ a .nil)) r
end
theorem bc{p:Prop}(h:(¬p→False)):p:=Classical.byContradiction h
theorem cg{α:Type}{x:α}{p:Prop}(h:none=some x):p:=nomatch h
section
variable{α β:Type}{P:Prop}
theorem ae{o:Option α}{f:α→Option β}{b:β}(h:o.bind f=some b)(k: ∀a,o=some a→f a=some b→P):P:=match o,h,k with
 |some a,h,k=>k a rfl h
theorem gM{o:Option α}{f:α→β}{b:β}(h:o.map f=some b)(k: ∀a,o=some a→f a=b→P):P:=match o,h,k with
 |some a,h,k=>k a rfl (Option.some.inj h)
theorem aH{c:Prop}[Decidable c]{a:Option α}{b:α}(h:(if c then a else none)=some b)(k:c→a=some b→P):P:=by
 by_cases q:c
 ·rw [if_pos q] at h;exact k q h
 ·rw [if_neg q] at h;exact cg h
theorem iP{c:Prop}[Decidable c]{a a':Option α}{b:α}(h:(if c then a else a')=some b)(k:c→a=some b→P)(k': ¬c→a'=some b→P):P:=by
 by_cases q:c
 ·rw [if_pos q] at h;exact k q h
 ·rw [if_neg q] at h;exact k' q h
theorem gN{a b:Bool}(h:(a&&b)=true)(k:a=true→b=true→P):P:=let ⟨x,y⟩:=Bool.and_eq_true_iff.mp h;k x y
end
inductive cP where
 |frame|loc (x:Str)|cell (x:Str)|sobj|sdict|fld (x:Str)
 deriving DecidableEq
noncomputable abbrev ag:=Addr→Option cP
noncomputable def cP.ofSlot:cP→Bool
 | .sobj| .sdict| .fld _=>true
 |_=>false
noncomputable def Rs(G:Addr→Prop)(lab:ag):Addr→Prop:=fun a=>G a∨lab a≠none
inductive Ho(h':Heap)(a:Addr)(o:Obj):Prop where
 |mk (sl:Array (Option Value)) (h1:h'.get? a=some {o with slots:=sl}) (h2:o.cls≠ .type "frame"→sl=o.slots)
noncomputable def Kept(lab:ag)(h:Heap)(lab':ag)(h':Heap):Prop:=∀a o,lab a=none→h.get? a=some o→o.cls≠ .none→Ho h' a o∧lab' a=none
theorem Kept.at{lab lab':ag}{h h':Heap}(k:Kept lab h lab' h')(a:Addr)(c:Value)(d:Option Addr)(x:Data)(e:lab a=none)(q:At h a c d x)(n:c≠ .none):At h' a c d x∧lab' a=none:=by
 refine Classical.byContradiction fun no=> ?_;obtain ⟨sl,q1,q2⟩:=q;obtain ⟨⟨dQ,r1,r2⟩,r3⟩:=k a _ e q1 n;refine no ?_;clear no;exact ⟨⟨dQ,r1,fun z=>(r2 z).trans (q2 z)⟩,r3⟩
theorem Kept.refl(lab:ag)(h:Heap):Kept lab h lab h:=fun _ o e q _=>⟨⟨o.slots,q,fun _=>rfl⟩,e⟩
theorem Kept.trans{l1 l2 l3:ag}{h1 h2 h3:Heap}(x:Kept l1 h1 l2 h2)(y:Kept l2 h2 l3 h3):Kept l1 h1 l3 h3:=fun a o e q n=>by
 refine Classical.byContradiction fun no=> ?_;obtain ⟨⟨sl,q1,q2⟩,q3⟩:=x a o e q n;obtain ⟨⟨dQ,r1,r2⟩,r3⟩:=y a _ q3 q1 n;refine no ?_;clear no;exact ⟨⟨dQ,r1,fun z=>(r2 z).trans (q2 z)⟩,r3⟩
theorem Kept.of_keeps{lab:ag}{h h':Heap}(k: ∀b o,h.get? b=some o→h'.get? b=some o):Kept lab h lab h':=fun _ o e q _=>⟨⟨o.slots,k _ _ q,fun _=>rfl⟩,e⟩
theorem Kept.rep{G:Addr→Prop}{lab lab':ag}{h h':Heap}(k:Kept lab h lab' h'){v:Value}{d:D}(r:aD h (Rs G lab) v d):aD h' (Rs G lab') v d:=
 r.mono fun a c d x n q hc=>by
  have e:lab a=none:=Classical.byContradiction fun z=>n (.inr z);obtain ⟨q',e'⟩:=k.at a c d x e q hc;exact ⟨q',fun z=>z.elim (fun g=>n (.inl g)) fun z=>z e'⟩
theorem Kept.reps{G:Addr→Prop}{lab lab':ag}{h h':Heap}(k:Kept lab h lab' h'){v:List Value}{d:List D}(r:an h (Rs G lab) v d):an h' (Rs G lab') v d:=
 r.mono fun a c d x n q hc=>by
  have e:lab a=none:=Classical.byContradiction fun z=>n (.inr z);obtain ⟨q',e'⟩:=k.at a c d x e q hc;exact ⟨q',fun z=>z.elim (fun g=>n (.inl g)) fun z=>z e'⟩
structure Cx where
 w:World
 base:Heap
 os:OsState
noncomputable def gr:Str:="_law_keys_right.<locals>.<lambda>"
inductive qk(h:Heap)(cv:Value):Prop where
 |mk (cc:Addr) (o:Obj) (vs:Array Value) (t:Tok) (h1:cv= .ref cc) (h2:h.get? cc=some o) (h3:o.cls= .type "code") (h4:o.data= .fields vs) (h5:vs[1]? =some (.str gr t))
inductive dK(h:Heap):Prop where
 |mk (ps:Array Value) (h1:h.get? 918=some {cls:=.none,dict:=none,data:=.fields ps,slots:=#[]}) (h2:TriplesOk ps.toList) (h3: ∀pos cv,codeAmong pos ps.toList=some cv→qk h cv)
theorem dK.mono{h h':Heap}(T:dK h)(k0: ∀o,h.get? 918=some o→h'.get? 918=some o)(k: ∀b o vs,h.get? b=some o→o.cls= .type "code"→o.data= .fields vs→h'.get? b=some o):dK h':=by
 obtain ⟨ps,h1,h2,h3⟩:=T;refine ⟨ps,k0 _ h1,h2,fun pos cv e=> ?_⟩;obtain ⟨cc,o,vs,t,q1,q2,q3,q4,q5⟩:=h3 pos cv e;exact ⟨cc,o,vs,t,q1,k cc o vs q2 q3 q4,q3,q4,q5⟩
theorem dK.keep{h h':Heap}(T:dK h)(k: ∀b o,h.get? b=some o→h'.get? b=some o):dK h':=T.mono (fun o e=>k _ _ e) fun b o _ e _ _=>k b o e
theorem dK.same{h h':Heap}{a:Addr}(T:dK h)(ha:a≠918)(hs:Heap.SameBut a h h'){cl:Value}{d:Option Addr}{y:Data}(q:At h a cl d y)(hn:cl≠ .type "code"∨∀vs,y≠ .fields vs):dK h':=
 T.mono (fun o e=>(hs.2 _ (Ne.symm ha)).trans e) fun b o vs e e1 e2=>(hs.2 b fun w=>by
  subst w;obtain ⟨sl,q,_⟩:=q;rw [q] at e;cases e;rcases hn with hn|hn
  ·exact hn e1
  ·exact hn vs e2).trans e
inductive tc(h:Heap)(a:Addr):Prop where
 |mk (c:Value) (d:Option Addr) (y:Data) (h1:At h a c d y) (h2:c≠ .none)
inductive OP(G:Addr→Prop)(lab:ag)(env:Env)(h:Heap):Prop where
 |mk (L:Addr) (d:Option Addr) (y:Data) (h1:env.frame=some L) (h2:G L∨lab L=some .frame) (h3:At h L (.type "frame") d y∧∀vs,y≠ .fields vs)
structure ch(x:Cx)(G:Addr→Prop)(lab:ag)(outer:List Env)(s:Shared):Prop where
 old:OldK x.base s.heap
 os:s.os=x.os
 gens:s.gens= #[]
 res: ∀a,Rs G lab a→x.base.objs.size≤a∧tc s.heap a
 fr: ∀env∈outer,env.scope.kind≠ .module∧OP G lab env s.heap
 inj: ∀a b l,lab a=some l→lab b=some l→a=b
 disj: ∀a,G a→lab a=none
 tab:918<x.base.objs.size∧dK s.heap
theorem At.old{x:Cx}{h:Heap}(K:OldK x.base h){a:Addr}{c:Value}{d:Option Addr}{y:Data}(q:At x.base a c d y)(hc:c≠ .none):At h a c d y:=let ⟨sl,e,z⟩:=q;⟨sl,K.get_of_cls e hc,z⟩
theorem ch.low{x:Cx}{G:Addr→Prop}{lab:ag}{outer:List Env}{s:Shared}(C:ch x G lab outer s){a:Addr}(h:a<x.base.objs.size): ¬Rs G lab a:=fun q=>Nat.lt_irrefl _ (Nat.lt_of_lt_of_le h (C.res a q).1)
theorem ch.new{x:Cx}{G:Addr→Prop}{lab:ag}{outer:List Env}{s:Shared}(C:ch x G lab outer s){a:Addr}(h:s.heap.objs.size≤a): ¬Rs G lab a:=fun q=>by
 obtain ⟨_,_,_,_,e,_⟩:=C.res a q;exact Nat.lt_irrefl _ (Nat.lt_of_lt_of_le e.lt h)
inductive Loc where
 |d (x:D)
 |own (l:List D)
 |ptr
 deriving Inhabited
inductive FV where
 |d (x:D)
 |own (l:List D)
 deriving Inhabited
inductive Slot where
 |inst (c:Addr) (fs:List (Str×FV))
 |deck (cells:List Int) (am:Int)
 deriving Inhabited
structure St where
 ρ:List (Str×Loc)
 σ:Option Slot
 deriving Inhabited
inductive bH(β:Type) where
 |ok (b:β)
 |bad
noncomputable def Ev(β:Type):=St→Option (bH β×St)
@[reducible] noncomputable def Ev.bind{β γ:Type}(m:Ev β)(k:β→Ev γ):Ev γ:=fun S=>match m S with
 |none=>none
 |some (.bad,S')=>some (.bad,S')
 |some (.ok b,S')=>k b S'
@[reducible] noncomputable def Ev.pure{β:Type}(b:β):Ev β:=fun S=>some (.ok b,S)
noncomputable def Ev.fail{β:Type}:Ev β:=fun _=>none
noncomputable def Ev.raise{β:Type}:Ev β:=fun S=>some (.bad,S)
noncomputable def Ev.get:Ev St:=fun S=>some (.ok S,S)
noncomputable def Ev.put(S:St):Ev Unit:=fun _=>some (.ok (),S)
noncomputable def Ev.opt{β:Type}(o:Option β):Ev β:=fun S=>match o with|some b=>some (.ok b,S)|none=>none
inductive bZ(h:Heap)(G:Addr→Prop)(lab:ag)(L:cP)(v:Value)(l:List D):Prop where
 |mk (a:Addr) (vs:Array Value) (n:Nat) (h1:v= .ref a) (h2:lab a=some L) (h3:At h a (.type "list") none (.seq vs n)) (h4:an h (Rs G lab) vs.toList l)
noncomputable def cQ(h:Heap)(G:Addr→Prop)(lab:ag)(x:Str)(v:Value):FV→Prop
 | .d d=>aD h (Rs G lab) v d
 | .own l=>bZ h G lab (.fld x) v l
inductive DU(h:Heap)(G:Addr→Prop)(lab:ag)(c:Addr)(fs:List (Str×FV)):Prop where
 |mk (x dx:Addr) (es:Array DictEntry) (n:Nat) (h1:lab x=some .sobj) (h2:lab dx=some .sdict) (h3:At h x (.ref c) (some dx) .plain) (h4:At h dx (.type "dict") none (.dict es n)) (h5:StrKeys es) (h6:es.size≤fs.length∧∀f,fs.lookup f=Option.none→nsFind es f=Option.none)
   (h7: ∀f y,fs.lookup f=some y→∃v,nsFind es f=some v∧cQ h G lab f v y)
inductive Lo(w:World)(h:Heap)(G:Addr→Prop)(lab:ag)(cells:List Int)(am:Int):Prop where
 |mk (dx:Addr) (es:Array DictEntry) (n:Nat) (v:Value) (u:Tok) (h1:lab dx=some .sobj) (h2:At h dx (.type "dict") none (.dict es n)) (h3:KeysOf (strKind pw w) es∧Pairs (strKind pw w) es.toList [("cells",v),("mixed",.int am u)]) (h4:True) (h5:bZ h G lab (.fld "cells") v (cells.map .int)) (h6:True)
noncomputable def bf(w:World)(h:Heap)(G:Addr→Prop)(lab:ag):Option Slot→Prop
 |none=>True
 |some (.inst c fs)=>DU h G lab c fs
 |some (.deck cells am)=>Lo w h G lab cells am
inductive uD(lab:ag)(v:Value):Prop where
 |mk (a:Addr) (h1:v= .ref a) (h2:lab a=some .sobj)
noncomputable def bp(h:Heap)(G:Addr→Prop)(lab:ag)(x:Str)(v:Value):Loc→Prop
 | .d d=>aD h (Rs G lab) v d
 | .own l=>bZ h G lab (.loc x) v l
 | .ptr=>uD lab v
noncomputable def o4(h:Heap):Prop:=∃mg,h.Ns mainGlobals mg∧h.BuiltinsAt mg 918
structure Fc where
 x:Cx
 A:Around
 G:Addr→Prop
 env:Env
 outer:List Env
 comp:Bool
inductive C9(env:Env)(G:Addr→Prop)(lab:ag)(ρ:List (Str×Loc))(h:Heap):Prop where
 |mk (cl:Value) (es:Array DictEntry) (n:Nat) (h1:At h env.locals cl none (.dict es n)) (h2:cl≠ .none) (h3:StrKeys es) (h4: ∀x l,ρ.lookup x=some l→env.kindOf x=some .local→∃v,nsFind es x=some v∧bp h G lab x v l)
inductive F1(env:Env)(comp:Bool)(G:Addr→Prop)(lab:ag)(x:Str)(l:Loc)(h:Heap):Prop where
 |mk (a:Addr) (v:Value) (h1:env.cells.lookup x=some a) (h2:comp=true→G a) (h3:comp=false→lab a=some (.cell x)) (h4:At h a (.type "cell") none (.cell (some v))) (h5:bp h G lab x v l)
inductive F2(env:Env)(lab:ag)(x:Str)(h:Heap):Prop where
 |mk (a:Addr) (v:Option Value) (h1:env.cells.lookup x=some a) (h2:lab a=some (.cell x)) (h3:At h a (.type "cell") none (.cell v))
structure Inv(c:Fc)(lab:ag)(S:St)(s:Shared):Prop where
 core:ch c.x c.G lab c.outer s
 isFrame:lab c.env.locals=some .frame
 frame:C9 c.env c.G lab S.ρ s.heap
 cells: ∀x l,S.ρ.lookup x=some l→c.env.kindOf x≠some .local→c.env.kindOf x=some .cell∧F1 c.env c.comp c.G lab x l s.heap
 bare:c.comp=false→∀x,c.env.kindOf x=some .cell→F2 c.env lab x s.heap
 slot:bf c.x.w s.heap c.G lab S.σ
structure dq(c:Fc):Prop where
 K:xc c.x.w c.x.base
 lim:c.x.base.NoLimit
 bi: ∃mb,c.x.base.Ns builtinsNs mb∧∀x:Str,x≠"__name__"→mb x=bootBuiltins x
 kind:c.env.scope.kind= .function
 globals:c.env.globals=mainGlobals
 builtins:c.env.builtins=builtinsNs
 handled:c.A.handled=none
 frames:c.A.frames=some c.outer
 guards:c.A.guards=some []
 here:c.comp=false→∃o,c.outer=c.env::o
 hasFrame: ∃L,c.env.frame=some L∧∃e o,c.outer=e::o∧e.frame=some L
 depth:c.A.depth≤600
 units:c.A.units≤5000
 cellsOk: ∀x,c.env.kindOf x=some .cell→∃a,c.env.cells.lookup x=some a
 mn:o4 c.x.base
theorem D4{p:Prop}(h:false=true):p:=Bool.noConfusion h
theorem TP{a b:Bool}{p:Prop}(h:a=b)(n:a=false)(m:b=true):p:=D4 (n.symm.trans (h.trans m))
theorem TJ{p:Prop}(h:true=false):p:=Bool.noConfusion h
theorem Ph{α:Type}{x:α}{p:Prop}(h:some x=none):p:=cg h.symm
theorem TM{α:Type}{x:α}{p:Prop}(h:x∈ ([]:List α)):p:=absurd h List.not_mem_nil
theorem Gs{α:Type}(f:α→Nat){a b:α}{p:Prop}(h:a=b)(n:Nat.beq (f a) (f b)=false):p:=Bool.noConfusion ((Nat.beq_refl (f b)).symm.trans (h▸n))
theorem QS{β:Type}{x:β}{p:Prop}(h:bH.bad=bH.ok x):p:=Gs (fun| .ok _=>1| .bad=>0) h rfl
theorem TK{β:Type}{x:β}{p:Prop}(h:bH.ok x=bH.bad):p:=QS h.symm
theorem QQ{a b:cP}{p:Prop}(h:a=b)(n:Nat.beq a.ctorIdx b.ctorIdx=false):p:=Gs cP.ctorIdx h n
theorem TN{a b:cP}{p:Prop}(h:some a=some b)(n:Nat.beq a.ctorIdx b.ctorIdx=false):p:=QQ (Option.some.inj h) n
theorem TH{a b:Value}{p:Prop}(h:a=b)(n:Nat.beq a.ctorIdx b.ctorIdx=false):p:=Gs Value.ctorIdx h n
theorem TL{a b:NameKind}{p:Prop}(h:some a=some b)(n:Nat.beq a.ctorIdx b.ctorIdx=false):p:=Gs NameKind.ctorIdx (Option.some.inj h) n
theorem TQ{a b:Data}{p:Prop}(h:a=b)(n:Nat.beq a.ctorIdx b.ctorIdx=false):p:=Gs Data.ctorIdx h n
open Lean in
def w1(t:Term)(s:String):MacroM (TSyntax `tactic):=do
 match s.splitOn " " with
 |[k,n,as]=>
  let args ←as.toList.toArray.mapM fun c=>if c== 'r' then `(rfl) else if c== '?' then `(?_) else if c== 'k' then `(by decide+kernel) else if c== 'l' then `(by walk_at "l") else if c== 'u' then `(by walk_at "u") else if c== 'a' then `(by assumption) else pure t
  let f:=Syntax.mkApp (mkIdent n.toName) args
  if k=="r" then `(tactic|refine $f) else if k=="e" then `(tactic|exact $f) else if k=="w" then `(tactic|with_reducible exact $f) else if k=="p" then `(tactic|apply $f) else if k=="x" then `(tactic|refine ⟨_,by walk_at "u", ?_⟩) else if k=="S" then `(tactic|assumption) else `(tactic|with_reducible assumption)
 |_=>Macro.throwUnsupported
open Lean in
def wf(t:Term)(s:String):MacroM (TSyntax `tactic):=do
 let ts ← (s.splitOn "|").toArray.mapM (w1 t)
 `(tactic|first $[| $ts:tactic]*)
mutual
noncomputable def D.py:D→Option PyData
 | .none=>some .none
 | .bool b=>some (.bool b)
 | .int i=>some (.int i)
 | .str x=>some (.str x)
 | .tup l=>(gV l).map .tuple
 | .lst l=>(gV l).map .list
 | .bytes _=>Option.none
 | .inst _ _=>Option.none
 | .val _=>Option.none
noncomputable def gV:List D→Option (List PyData)
 |[]=>some []
 |d::r=>d.py.bind fun p=>(gV r).map (p:: ·)
end
theorem aD.reads'{h:Heap}{M:Addr→Prop}{v:Value}{d:D}(r:aD h M v d): ∀p,d.py=some p→∃as,Reads h v p as:=
 aD.rec (motive_1:=fun v d _=>∀p,d.py=some p→∃as,Reads h v p as) (motive_2:=fun vs ds _=>∀p,gV ds=some p→∃as,ReadsAll h vs p as)
  (fun _ e=>Option.some.inj e▸⟨_,.none⟩) (fun b _ e=>Option.some.inj e▸⟨_,.bool b⟩) (fun i t _ e=>Option.some.inj e▸⟨_,.int i t⟩) (fun x t _ e=>Option.some.inj e▸⟨_,.str x t⟩) (fun _ _ _ e=>cg e)
  (fun a vs ds n h1 _ _ h3 _ e=>gM e fun q e1 e2=>let ⟨as,r⟩:=h3 q e1;e2▸⟨_,.tuple h1.exact rfl rfl r⟩)
  (fun a vs ds n h1 _ _ h3 _ e=>gM e fun q e1 e2=>let ⟨as,r⟩:=h3 q e1;e2▸⟨_,.list h1.exact rfl rfl r⟩)
  (fun _ _ _ _ _ _ _ _ _ _ _ _ _ _ _ _ _ _ e=>cg e) (fun _ _ e=>cg e) (fun _ e=>Option.some.inj e▸⟨_,.nil⟩)
  (fun v d vs ds _ _ a b _ e=>ae e fun p e1 e=>gM e fun q e2 e3=>let ⟨as,r⟩:=a p e1;let ⟨bs,rs⟩:=b q e2;e3▸⟨_,.cons r rs⟩) r
theorem aD.reads{h:Heap}{M:Addr→Prop}{v:Value}{d:D}(r:aD h M v d){p:PyData}(e:d.py=some p): ∃as,Reads h v p as:=r.reads' p e
noncomputable def pP:D→Option Int
 | .int i=>some i
 |_=>none
noncomputable def wZ:D→Option Str
 | .str x=>some x
 |_=>none
noncomputable def Dj:D→Option (List D)
 | .lst l=>some l
 |_=>none
noncomputable def Qd:D→Option (List UInt8)
 | .bytes b=>some b
 |_=>none
theorem ia{d:D}{i:Int}(h:pP d=some i):d= .int i:=by cases d<;>first|exact cg h|exact congrArg _ (Option.some.inj h)
theorem hV{d:D}{x:Str}(h:wZ d=some x):d= .str x:=by cases d<;>first|exact cg h|exact congrArg _ (Option.some.inj h)
theorem hY{d:D}{x:List D}(h:Dj d=some x):d= .lst x:=by cases d<;>first|exact cg h|exact congrArg _ (Option.some.inj h)
theorem yK{d:D}{x:List UInt8}(h:Qd d=some x):d= .bytes x:=by cases d<;>first|exact cg h|exact congrArg _ (Option.some.inj h)
noncomputable def two{α β:Type}(f:D→Option α)(a b:D)(g:α→α→Option β):Option β:=(f a).bind fun x=>(f b).bind fun y=>g x y
theorem AS{α β:Type}{f:D→Option α}{a b:D}{g:α→α→Option β}{r:β}{P:Prop}(h:two f a b g=some r)(k: ∀x y,f a=some x→f b=some y→g x y=some r→P):P:=
 ae h fun x e1 h=>ae h fun y e2 h=>k x y e1 e2 h
section
variable{α:Type}{a b:D}{r:α}{h:Heap}{M:Addr→Prop}{va vb:Value}{P:Value→Value→Prop}
theorem ints2{g:Int→Int→Option α}(e:two pP a b g=some r)(ra:aD h M va a)(rb:aD h M vb b)(k: ∀x t y u,g x y=some r→P (.int x t) (.int y u)):P va vb:=by
 refine AS e fun x y e1 e2 e=> ?_;rw [ia e1] at ra;rw [ia e2] at rb;obtain ⟨t,rfl⟩:=ra.int';obtain ⟨u,rfl⟩:=rb.int';exact k _ _ _ _ e
theorem xw{g:Str→Str→Option α}(e:two wZ a b g=some r)(ra:aD h M va a)(rb:aD h M vb b)(k: ∀x t y u,g x y=some r→P (.str x t) (.str y u)):P va vb:=by
 refine AS e fun x y e1 e2 e=> ?_;rw [hV e1] at ra;rw [hV e2] at rb;obtain ⟨t,rfl⟩:=ra.str';obtain ⟨u,rfl⟩:=rb.str';exact k _ _ _ _ e
end
noncomputable def AA{α:Type}(a b:Option α):Option α:=a.elim b some
theorem vw{α:Type}{a b:Option α}{r:α}{P:Prop}(h:AA a b=some r)(k1:a=some r→P)(k2:b=some r→P):P:=match a,h,k1,k2 with
 |some a,h,k1,_=>k1 h
 |none,h,_,k2=>k2 h
noncomputable def fK(p:PyData):Bool:=p.canLay0&&decide (p.depth≤64)
noncomputable def Mt:PyData→Option Str
 | .str x=>some x
 |_=>none
theorem xV{p:PyData}{x:Str}(h:Mt p=some x):p= .str x:=by cases p<;>first|exact cg h|exact congrArg _ (Option.some.inj h)
noncomputable def SS(p q:PyData):Option Bool:=(Mt p).bind fun x=>(Mt q).bind fun y=>some (x==y)
noncomputable def AP(p q:PyData):Option Bool:=AA (SS p q) (if fK p&&fK q then some (PyData.eqv p q) else none)
noncomputable def D0(a b:D)(f:PyData→PyData→Option Bool):Option Bool:=a.py.bind fun p=>b.py.bind fun q=>f p q
noncomputable def AQ(a b:D):Option Bool:=AA (D0 a b AP) (two Qd a b fun x y=>some (x==y))
noncomputable def Gw(p q:PyData):Option Bool:=match q with
 | .list xs=>if PyData.canLayAll0 xs&&fK p then some (xs.any fun y=>PyData.eqv y p) else none
 | .tuple xs=>if PyData.canLayAll0 xs&&fK p then some (xs.any fun y=>PyData.eqv y p) else none
 |_=>none
noncomputable def As(a b:D):Option Bool:=AA (two wZ a b fun x y=>some (Txt.contains y x)) (D0 a b Gw)
noncomputable def uY:D→Option Bool
 | .none=>some true
 | .val _=>none
 |_=>some false
noncomputable def MC(a b:D):Option Bool:=match b with
 | .none=>uY a
 |_=>none
noncomputable def gR(op:CmpOp)(a b:D):Option Bool:=match op with
 | .Eq=>AQ a b
 | .NotEq=>(AQ a b).map (!·)
 | .Lt=>two pP a b fun a b=>some (decide (a<b))
 | .LtE=>AA (two pP a b fun a b=>some (decide (a≤b))) (two wZ a b fun x y=>some (!decide (y.cps.toList<x.cps.toList)))
 | .Gt=>two pP a b fun a b=>some (decide (a>b))
 | .GtE=>two pP a b fun a b=>some (decide (a≥b))
 | .In=>As a b
 | .NotIn=>(As a b).map (!·)
 | .Is=>MC a b
 | .IsNot=>(MC a b).map (!·)
noncomputable def un(a b:Int):Bool:=decide (Builtin.Int.intBits a≤64)||decide (Builtin.Int.intBits b≤64)
noncomputable def Ou(a b:D):Option D:=AA (two pP a b fun a b=>some (.int (a+b))) (AA (two wZ a b fun x y=>if x.length+y.length≤sizeLine then some (.str (x++y)) else none)
 (two Dj a b fun x y=>if x.length+y.length≤sizeLine then some (.lst (x++y)) else none))
noncomputable def lz(op:Operator)(a b:D):Option D:=match op with
 | .Add=>Ou a b
 | .Sub=>two pP a b fun a b=>some (.int (a - b))
 | .Mult=>two pP a b fun a b=>if un a b then some (.int (a*b)) else none
 | .Mod=>two pP a b fun a b=>if b=0 then none else some (.int (a.fmod b))
 | .Pow=>two pP a b fun a b=>if 0≤b∧(Builtin.Int.intBits a:Int)*b≤2 ^ 27 then some (.int (a ^ b.toNat)) else none
 |_=>none
noncomputable def NY(a:D):Option D:=(pP a).bind fun i=>some (.int (-i))
noncomputable def O3(op:UnaryOp)(a:D):Option D:=match op with
 | .USub=>NY a
 | .Not=>(match a with
  | .bool b=>some (.bool (!b))
  |_=>none)
 |_=>none
section
variable{w:World}{A:Around}{E:Value→Shared→Prop}{s:Shared}{M:Addr→Prop}
theorem xU{m n:Nat}(h:n≤64)(hu:A.units≤6000):A.units+1+min m n<cLine:=by
 exact Nat.lt_of_le_of_lt (Nat.add_le_add (Nat.add_le_add_right hu 1) (Nat.le_trans (Nat.min_le_right m n) h)) (by rw [show cLine=9900 from rfl];decide)
theorem nZ{h:Heap}{v:Value}{p:PyData}{as:List Addr}(r:Reads h v p as): ∀x,p= .str x→∃t,v= .str x t:=by
 cases r<;>first|exact fun x e=>PyData.str.inj e▸⟨_,rfl⟩|exact fun _ e=>PyData.noConfusion e
theorem FL{op:CmpOp}{p q:PyData}{r:Bool}(e:AP p q=some r){a b:Value}{as bs:List Addr}(ra:Reads s.heap a p as)(rb:Reads s.heap b q bs)(hu:A.units≤6000){Q:Value→Shared→Prop}:
  (Q (.bool r) s→wpAny (model pw w) A (compareOp .Eq a b) Q E s)∧(Q (.bool (!r)) s→wpAny (model pw w) A (compareOp .NotEq a b) Q E s):=by
 refine vw e (fun e=>ae e fun x e1 e=>ae e fun y e2 e=> ?_) fun e=>aH e fun vm e=> ?_
 ·obtain rfl:=Option.some.inj e
  obtain ⟨_,rfl⟩:=nZ ra _ (xV e1);obtain ⟨_,rfl⟩:=nZ rb _ (xV e2);exact ⟨fun h=>PyProof.Rows.eq_str h,fun h=>PyProof.Rows.ne_str h⟩
 ·obtain rfl:=Option.some.inj e
  obtain ⟨Dh,SD⟩:=Bool.and_eq_true_iff.mp vm;obtain ⟨h1,_⟩:=Bool.and_eq_true_iff.mp Dh;obtain ⟨h3,h4⟩:=Bool.and_eq_true_iff.mp SD;have hr:A.units+min p.depth q.depth<cLine:=Nat.lt_of_le_of_lt (Nat.add_le_add_right (Nat.le_succ _) _) (xU (of_decide_eq_true h4) hu);exact ⟨fun h=>SeqAt.compareEq_reads ra rb h1 h3 hr h,fun h=>SeqAt.compareNe_reads ra rb h1 h3 hr h⟩
end
noncomputable def jp(M:Addr→Prop)(s:Shared):Prop:=∀a,s.heap.objs.size≤a→¬M a
theorem aD.keeps{h h':Heap}{M:Addr→Prop}{v:Value}{d:D}(r:aD h M v d)(k: ∀b o,h.get? b=some o→h'.get? b=some o):aD h' M v d:=r.mono fun _ _ _ _ n q _=>⟨q.keep k,n⟩
theorem an.keeps{h h':Heap}{M:Addr→Prop}{v:List Value}{d:List D}(r:an h M v d)(k: ∀b o,h.get? b=some o→h'.get? b=some o):an h' M v d:=r.mono fun _ _ _ _ n q _=>⟨q.keep k,n⟩
theorem aw{s:Shared}(t:Nat):Keeps s {s with toks:=t}:=⟨s.heap,t,rfl,fun _ _ e=>e⟩
theorem db(s:Shared):Keeps s s:=⟨s.heap,s.toks,rfl,fun _ _ e=>e⟩
theorem ce{s:Shared}(o:Obj):Keeps s {s with heap:=s.heap.push o}:=⟨_,s.toks,rfl,fun _ _ e=>Heap.get?_push_of_some _ e⟩
theorem kL{a b c:Shared}(x:Keeps a b)(y:Keeps b c):Keeps a c:=by
 obtain ⟨h,t,rfl,k⟩:=x;obtain ⟨h',t',rfl,k'⟩:=y;exact ⟨h',t',rfl,fun b o e=>k' b o (k b o e)⟩
theorem al{s s':Shared}(x:Keeps s s'): ∀b o,s.heap.get? b=some o→s'.heap.get? b=some o:=by
 obtain ⟨h,t,rfl,k⟩:=x;exact k
section
variable{w:World}{A:Around}{E:Value→Shared→Prop}{s:Shared}{M:Addr→Prop}
theorem xW{a b:D}{f:PyData→PyData→Option Bool}{r:Bool}{va vb:Value}{P:Prop}(e:D0 a b f=some r)(ra:aD s.heap M va a)(rb:aD s.heap M vb b)(k: ∀p q as bs,Reads s.heap va p as→Reads s.heap vb q bs→f p q=some r→P):P:=
 ae e fun p e1 e=>ae e fun q e2 e=>let ⟨as,r1⟩:=ra.reads e1;let ⟨bs,r2⟩:=rb.reads e2;k p q as bs r1 r2 e
theorem yw{a b:D}{r:Bool}(e:AQ a b=some r){va vb:Value}(ra:aD s.heap M va a)(rb:aD s.heap M vb b)(hu:A.units≤6000){Q:Value→Shared→Prop}:
  (Q (.bool r) s→wpAny (model pw w) A (compareOp .Eq va vb) Q E s)∧(Q (.bool (!r)) s→wpAny (model pw w) A (compareOp .NotEq va vb) Q E s):=by
 refine vw e (fun e=>xW e ra rb fun p q as bs r1 r2 e=>FL (op:=.Eq) e r1 r2 hu) fun e=>AS e fun x y e1 e2 e=> ?_;obtain rfl:=Option.some.inj e;rw [yK e1] at ra;rw [yK e2] at rb;obtain ⟨_,_,rfl,rfl⟩:=ra.inv;obtain ⟨_,_,rfl,rfl⟩:=rb.inv;exact ⟨fun h=>eq_bytes h,fun h=>ne_bytes h⟩
theorem Fq{p q:PyData}{r:Bool}(e:Gw p q=some r){a b:Value}{as bs:List Addr}(ra:Reads s.heap a p as)(rb:Reads s.heap b q bs)(hu:A.units≤6000){Q:Value→Shared→Prop}:
  (Q (.bool r) s→wpAny (model pw w) A (compareOp .In a b) Q E s)∧(Q (.bool (!r)) s→wpAny (model pw w) A (compareOp .NotIn a b) Q E s):=by
 have pV: ∀xs,fK p=true→p.canLay0=true∧A.units+1+min (PyData.depthAll xs) p.depth<cLine:=fun xs h=>let ⟨a,b⟩:=Bool.and_eq_true_iff.mp h;⟨a,xU (of_decide_eq_true b) hu⟩
 cases q with
 |list xs=>
  refine aH e fun vm e=> ?_;obtain rfl:=Option.some.inj e;obtain ⟨h1,h2⟩:=Bool.and_eq_true_iff.mp vm;exact ⟨fun h=>SeqAt.in_list_reads rb ra h1 (pV xs h2).1 (pV xs h2).2 h,fun h=>SeqAt.notIn_list_reads rb ra h1 (pV xs h2).1 (pV xs h2).2 h⟩
 |tuple xs=>
  refine aH e fun vm e=> ?_;obtain rfl:=Option.some.inj e;obtain ⟨h1,h2⟩:=Bool.and_eq_true_iff.mp vm;exact ⟨fun h=>SeqAt.in_tuple_reads rb ra h1 (pV xs h2).1 (pV xs h2).2 h,fun h=>SeqAt.notIn_tuple_reads rb ra h1 (pV xs h2).1 (pV xs h2).2 h⟩
 |_=>exact cg e
theorem sQ{a b:D}{r:Bool}(e:As a b=some r){va vb:Value}(ra:aD s.heap M va a)(rb:aD s.heap M vb b)(hu:A.units≤6000){Q:Value→Shared→Prop}:
  (Q (.bool r) s→wpAny (model pw w) A (compareOp .In va vb) Q E s)∧(Q (.bool (!r)) s→wpAny (model pw w) A (compareOp .NotIn va vb) Q E s):=by
 refine vw e (fun e=>xw (P:=fun va vb=>(Q (.bool r) s→wpAny (model pw w) A (compareOp .In va vb) Q E s)∧(Q (.bool (!r)) s→wpAny (model pw w) A (compareOp .NotIn va vb) Q E s)) e ra rb fun x t y u e=> ?_) fun e=>xW e ra rb fun p q as bs r1 r2 e=>Fq e r1 r2 hu;obtain rfl:=Option.some.inj e;exact ⟨fun h=>SB.contains h,fun h=>SB.notContains h⟩
theorem wn{a:D}{r:Bool}(e:uY a=some r){va:Value}(ra:aD s.heap M va a):(va== .none)=r:=by
 cases ra<;>first|exact cg e|exact Option.some.inj e
theorem yh{a b:D}{r:Bool}(e:MC a b=some r){va vb:Value}(ra:aD s.heap M va a)(rb:aD s.heap M vb b):vb= .none∧(va== .none)=r:=by
 cases b with
 |none=>exact ⟨rb.inv,wn e ra⟩
 |_=>exact cg e
theorem lc{op:CmpOp}{a b:D}{r:Bool}(e:gR op a b=some r){va vb:Value}(ra:aD s.heap M va a)(rb:aD s.heap M vb b)(hu:A.units≤6000){Q:Value→Shared→Prop}(h:Q (.bool r) s):
  wpAny (model pw w) A (compareOp op va vb) Q E s:=by
 cases op with
 |Eq=>exact (yw e ra rb hu).1 h
 |NotEq=>exact gM e fun r' e' q=>(yw e' ra rb hu).2 (q▸h)
 |In=>exact (sQ e ra rb hu).1 h
 |NotIn=>exact gM e fun r' e' q=>(sQ e' ra rb hu).2 (q▸h)
 |Lt=>exact ints2 (P:=fun va vb=>wpAny (model pw w) A (compareOp .Lt va vb) Q E s) e ra rb fun _ _ _ _ e=>P.lt_int (Option.some.inj e▸h)
 |Gt=>exact ints2 (P:=fun va vb=>wpAny (model pw w) A (compareOp .Gt va vb) Q E s) e ra rb fun _ _ _ _ e=>P.gt_int (Option.some.inj e▸h)
 |GtE=>exact ints2 (P:=fun va vb=>wpAny (model pw w) A (compareOp .GtE va vb) Q E s) e ra rb fun _ _ _ _ e=>P.ge_int (Option.some.inj e▸h)
 |LtE=>exact vw e (fun e=>ints2 (P:=fun va vb=>wpAny (model pw w) A (compareOp .LtE va vb) Q E s) e ra rb fun _ _ _ _ e=>P.le_int (Option.some.inj e▸h)) fun e=>xw (P:=fun va vb=>wpAny (model pw w) A (compareOp .LtE va vb) Q E s) e ra rb fun _ _ _ _ e=>P.le_str (Option.some.inj e▸h)
 |Is=>
  obtain ⟨rfl,q⟩:=yh e ra rb;exact is_none_gen (q▸h)
 |IsNot=>
  refine gM e fun r' e q'=> ?_;obtain ⟨rfl,q⟩:=yh e ra rb;exact isnot_none_gen (by rw [q,q'];exact h)
theorem qJ{a b:Int}(h:un a b=true):IntMulOk a b:=by
 rcases (Bool.or_eq_true _ _).mp h with h|h
 ·exact IntMulOk.of_left (of_decide_eq_true h)
 ·have h': ¬(Builtin.Int.intBits b>shortFactorBits):=Nat.not_lt.mpr (of_decide_eq_true h)
  unfold IntMulOk;rw [decide_eq_false h',Bool.and_false];exact Bool.false_ne_true
theorem CS{op:Operator}{a b d:D}(e:lz op a b=some d){va vb:Value}(ra:aD s.heap M va a)(rb:aD s.heap M vb b)(hf:jp M s){Q:Value→Shared→Prop}
  (h: ∀v s',Keeps s s'→aD s'.heap M v d→Q v s'):wpAny (model pw w) A (binaryOp op va vb) Q E s:=by
 have hi: ∀i t,some (.int i)=some d→Q (.int i t) {s with toks:=s.toks+1}:=fun i t e=>h _ _ (aw _) (Option.some.inj e▸ .int _ _)
 cases op with
 |Add=>
  refine vw e (fun e=>ints2 (P:=fun va vb=>wpAny (model pw w) A (binaryOp .Add va vb) Q E s) e ra rb fun _ _ _ _ e=>P.add_int (hi _ _ e)) fun e=>vw e (fun e=>xw (P:=fun va vb=>wpAny (model pw w) A (binaryOp .Add va vb) Q E s) e ra rb fun _ _ _ _ e=>aH e fun hm e=>SB.add (fun t' k=>h _ _ (aw _) (Option.some.inj e▸ .str _ _)) hm)
   fun e=>AS e fun x y e1 e2 e=>aH e fun hm e=> ?_
  obtain rfl:=Option.some.inj e;rw [hY e1] at ra;rw [hY e2] at rb;obtain ⟨a,vs,n,rfl,h1,h2,h3⟩:=ra.lst';obtain ⟨b,ws,n',rfl,g1,g2,g3⟩:=rb.lst';have hl:IsL s.heap a vs n:=h1.exact;have rW:IsL s.heap b ws n':=g1.exact;refine P.add_list hl rW (h _ _ (ce _) ?_) ?_
  ·refine .lst _ (vs++ws) _ 0 (.of (Heap.get?_push_size _ rfl)) (hf _ (Nat.le_refl _)) ?_
   rw [Array.toList_append];exact (h3.append g3).keeps (al (ce _))
  ·have l1:=h3.length
   have l2:=g3.length;rw [Array.length_toList] at l1 l2;rw [l1,l2];exact hm
 |Sub=>exact ints2 (P:=fun va vb=>wpAny (model pw w) A (binaryOp .Sub va vb) Q E s) e ra rb fun _ _ _ _ e=>P.sub_int (hi _ _ e)
 |Mult=>exact ints2 (P:=fun va vb=>wpAny (model pw w) A (binaryOp .Mult va vb) Q E s) e ra rb fun _ _ _ _ e=>aH e fun hm e=>P.mul_int (hi _ _ e) (qJ hm)
 |Mod=>exact ints2 (P:=fun va vb=>wpAny (model pw w) A (binaryOp .Mod va vb) Q E s) e ra rb fun _ _ _ _ e=>iP e (fun _ e=>cg e) fun hm e=>mod_int' hm (hi _ _ e)
 |Pow=>exact ints2 (P:=fun va vb=>wpAny (model pw w) A (binaryOp .Pow va vb) Q E s) e ra rb fun _ _ _ _ e=>aH e fun hm e=>pow_int hm.1 hm.2 (hi _ _ e)
 |_=>exact cg e
theorem EO{op:UnaryOp}{a d:D}(e:O3 op a=some d){va:Value}(ra:aD s.heap M va a){Q:Value→Shared→Prop}
  (h: ∀v s',Keeps s s'→aD s'.heap M v d→Q v s'):wpAny (model pw w) A (unaryOp op va) Q E s:=by
 cases op with
 |USub=>
  refine ae e fun i e1 e=> ?_;rw [ia e1] at ra;obtain ⟨t,rfl⟩:=ra.int';exact P.neg_int (h _ _ (aw _) (Option.some.inj e▸ .int _ _))
 |Not=>cases a with
  |bool b=>cases ra.inv;exact wpAny_bind (wpAny_truthy_bool (wpAny_pure (h _ _ (db _) (Option.some.inj e▸ .bool _))))
  |_=>exact cg e
 |_=>exact cg e
end
local macro_rules | `(nomatch $e:term)=>do `(by first| $(←wf e "w cg $|w D4 $|w Ph $|w QS $|w TK $|w TM $|e TP $rr|e TH $r|e TN $r|e QQ $r|e TL $r|e TQ $r"):tactic|exact nomatch $e,())
inductive V where
 |d (x:D)
 |ptr
 deriving Inhabited
inductive Fl where
 |next|cont
 |ret (v:D)
 deriving Inhabited
noncomputable abbrev ab:=List (Str×NameKind)
noncomputable abbrev au:=Addr→List V→Option Slot→Option (bH D×Option Slot)
structure ba where
 ev:ab→Expr→Ev V
 evT:ab→Expr→Ev Bool
 ex:ab→Stmt→Ev Fl
noncomputable def V.isPtr:V→Bool
 | .ptr=>true
 |_=>false
noncomputable def vD:V→Option D
 | .d x=>some x
 | .ptr=>none
noncomputable def Nr:V→Ev D
 | .d x=>.pure x
 | .ptr=>.fail
noncomputable def xM:D→Option Value
 | .val v=>some v
 |_=>none
noncomputable def Bd:D→Option (Addr×List (Str×D))
 | .inst c fs=>some (c,fs)
 |_=>none
theorem iv{d:D}{x:Value}(h:xM d=some x):d= .val x:=by cases d<;>first|exact cg h|exact congrArg _ (Option.some.inj h)
theorem pD{d:D}{q:Addr×List (Str×D)}(h:Bd d=some q):d= .inst q.1 q.2:=by cases d<;>first|exact cg h|exact Option.some.inj h▸rfl
theorem nH{v:V}{d:D}(h:vD v=some d):v= .d d:=by cases v<;>first|exact cg h|exact congrArg _ (Option.some.inj h)
noncomputable def xh:Value→Option Addr
 | .ref a=>some a
 |_=>none
theorem kT{v:Value}{i:Addr}(h:xh v=some i):v= .ref i:=by cases v<;>first|exact cg h|exact congrArg _ (Option.some.inj h)
noncomputable def pQ{α:Type}:List α→Option α
 |[]=>none
 |a::r=>if r.isEmpty then some a else none
theorem dU{α:Type}{l:List α}{a:α}(h:pQ l=some a):l= [a]:=by
 cases l with
 |nil=>exact cg h
 |cons b r=>exact aH h fun q e=>Option.some.inj e▸List.isEmpty_iff.mp q▸rfl
noncomputable def lr{α:Type}:List α→Option (α×α)
 |[]=>none
 |a::r=>(pQ r).bind fun b=>some (a,b)
theorem iF{α:Type}{l:List α}{a:α×α}(h:lr l=some a):l= [a.1,a.2]:=by
 cases l with
 |nil=>exact cg h
 |cons b r=>exact ae h fun c q e=>Option.some.inj e▸dU q▸rfl
noncomputable def oG:Slot→Option (Addr×List (Str×FV))
 | .inst c fs=>some (c,fs)
 | .deck _ _=>none
theorem kX{s:Slot}{q:Addr×List (Str×FV)}(h:oG s=some q):s= .inst q.1 q.2:=by cases s<;>first|exact cg h|exact Option.some.inj h▸rfl
noncomputable def D1{β:Type}:bH β→Option β
 | .ok b=>some b
 | .bad=>none
theorem lI{β:Type}{r:bH β}{b:β}(h:D1 r=some b):r= .ok b:=by cases r<;>first|exact cg h|exact congrArg _ (Option.some.inj h)
noncomputable def GV:D→Bool
 | .none=>true
 |_=>false
theorem Cd{d:D}(h:GV d=true):d= .none:=by cases d<;>first|rfl|exact nomatch h
noncomputable def yb:Loc→Option (List D)
 | .own l=>some l
 |_=>none
theorem og{l:Loc}{d:List D}(h:yb l=some d):l= .own d:=by cases l<;>first|exact cg h|exact congrArg _ (Option.some.inj h)
noncomputable def AW:Loc→Option D
 | .d l=>some l
 |_=>none
theorem pk{l:Loc}{d:D}(h:AW l=some d):l= .d d:=by cases l<;>first|exact cg h|exact congrArg _ (Option.some.inj h)
noncomputable def ya:Loc→Bool
 | .ptr=>true
 |_=>false
theorem wd{l:Loc}(h:ya l=true):l= .ptr:=by cases l<;>first|rfl|exact nomatch h
noncomputable def Mf:FV→Option (List D)
 | .own l=>some l
 | .d _=>none
theorem Fy{l:FV}{d:List D}(h:Mf l=some d):l= .own d:=by cases l<;>first|exact cg h|exact congrArg _ (Option.some.inj h)
section
variable{α β:Type}{P:Prop}
theorem du{o:Option α}{n:Option β}{f:α→Option β}{b:β}(h:o.elim n f=some b)(k1:o=none→n=some b→P)(k2: ∀a,o=some a→f a=some b→P):P:=match o,h,k1,k2 with
 |none,h,k,_=>k rfl h
 |some a,h,_,k=>k a rfl h
theorem f8{c:Bool}{a b:Option α}{x:α}(h:(bif c then a else b)=some x)(k1:c=true→a=some x→P)(k2:c=false→b=some x→P):P:=match c,h,k1,k2 with
 |true,h,k,_=>k rfl h
 |false,h,_,k=>k rfl h
end
inductive cn where
 |name (x:Str) (p:Pos)
 |attr (o:Expr) (m:Str) (p:Pos)
 |call (f:Expr) (as:List Expr) (ks:List Keyword) (p:Pos)
 |const (c:Const) (k:Nat) (p:Pos)
 |dict (ks:List (Option Expr)) (vs:List Expr) (p:Pos)
 |slice (lo hi st:Option Expr) (p:Pos)
 |list (es:List Expr) (p:Pos)
 |tup (es:List Expr) (k:Nat) (p:Pos)
 |comp (elt:Expr) (gs:List Comprehension) (sc:Scope) (p:Pos)
 |lam (ps:Arguments) (b:Expr) (sc:Scope) (p:Pos)
 |other
noncomputable def view:Expr→cn
 | .Name x p=>.name x p
 | .Attribute o m p=>.attr o m p
 | .Call f as ks p=>.call f as ks p
 | .Constant c k p=>.const c k p
 | .Dict ks vs p=>.dict ks vs p
 | .Slice lo hi st p=>.slice lo hi st p
 | .List es p=>.list es p
 | .Tuple es k p=>.tup es k p
 | .ListComp e gs sc p=>.comp e gs sc p
 | .Lambda ps b sc p=>.lam ps b sc p
 |_=>.other
noncomputable def cn.of(v:cn)(e:Expr):Prop:=match v with
 | .name x p=>e= .Name x p
 | .attr o m p=>e= .Attribute o m p
 | .call f as ks p=>e= .Call f as ks p
 | .const c k p=>e= .Constant c k p
 | .dict ks vs p=>e= .Dict ks vs p
 | .slice lo hi st p=>e= .Slice lo hi st p
 | .list es p=>e= .List es p
 | .tup es k p=>e= .Tuple es k p
 | .comp x gs sc p=>e= .ListComp x gs sc p
 | .lam ps b sc p=>e= .Lambda ps b sc p
 | .other=>True
theorem d9(e:Expr):(view e).of e:=by cases e<;>first|exact rfl|exact trivial
structure o6 where
 f:Expr
 as:List Expr
 ks:List Keyword
 p:Pos
structure o7 where
 o:Expr
 m:Str
 p:Pos
noncomputable def cn.name?:cn→Option (Str×Pos)
 | .name x p=>some (x,p)
 |_=>none
noncomputable def cn.attr?:cn→Option o7
 | .attr o m p=>some ⟨o,m,p⟩
 |_=>none
noncomputable def cn.call?:cn→Option o6
 | .call f as ks p=>some ⟨f,as,ks,p⟩
 |_=>none
noncomputable def cn.const?:cn→Option (Const×Nat×Pos)
 | .const c k p=>some (c,k,p)
 |_=>none
noncomputable def cn.dict?:cn→Option (List (Option Expr)×List Expr×Pos)
 | .dict ks vs p=>some (ks,vs,p)
 |_=>none
noncomputable def cn.slice?:cn→Option (Option Expr×Option Expr×Option Expr×Pos)
 | .slice a b c p=>some (a,b,c,p)
 |_=>none
noncomputable def cn.list?:cn→Option (List Expr×Pos)
 | .list es p=>some (es,p)
 |_=>none
noncomputable def cn.tup?:cn→Option (List Expr×Nat×Pos)
 | .tup es k p=>some (es,k,p)
 |_=>none
noncomputable def cn.comp?:cn→Option (Expr×List Comprehension×Scope×Pos)
 | .comp e gs sc p=>some (e,gs,sc,p)
 |_=>none
noncomputable def cn.lam?:cn→Option (Arguments×Expr×Scope×Pos)
 | .lam ps b sc p=>some (ps,b,sc,p)
 |_=>none
noncomputable def cT(e:Expr):Option (Str×Pos):=(view e).name?
noncomputable def gi(e:Expr):Option o7:=(view e).attr?
noncomputable def i7(e:Expr):Option o6:=(view e).call?
noncomputable def iG(e:Expr):Option (Const×Nat×Pos):=(view e).const?
noncomputable def ib(e:Expr):Option (List (Option Expr)×List Expr×Pos):=(view e).dict?
noncomputable def ld(e:Expr):Option (Option Expr×Option Expr×Option Expr×Pos):=(view e).slice?
noncomputable def ta(e:Expr):Option (List Expr×Pos):=(view e).list?
noncomputable def uz(e:Expr):Option (List Expr×Nat×Pos):=(view e).tup?
noncomputable def Hm(e:Expr):Option (Expr×List Comprehension×Scope×Pos):=(view e).comp?
noncomputable def DO(e:Expr):Option (Arguments×Expr×Scope×Pos):=(view e).lam?
section
variable{v:cn}{e:Expr}(h:v.of e)
include h
theorem cn.name_is{q:Str×Pos}(i:v.name?=some q):e= .Name q.1 q.2:=by cases v<;>first|exact cg i|exact Option.some.inj i▸h
theorem cn.attr_is{q:o7}(i:v.attr?=some q):e= .Attribute q.o q.m q.p:=by cases v<;>first|exact cg i|exact Option.some.inj i▸h
theorem cn.call_is{q:o6}(i:v.call?=some q):e= .Call q.f q.as q.ks q.p:=by cases v<;>first|exact cg i|exact Option.some.inj i▸h
theorem cn.const_is{q:Const×Nat×Pos}(i:v.const?=some q):e= .Constant q.1 q.2.1 q.2.2:=by cases v<;>first|exact cg i|exact Option.some.inj i▸h
theorem cn.dict_is{q:List (Option Expr)×List Expr×Pos}(i:v.dict?=some q):e= .Dict q.1 q.2.1 q.2.2:=by cases v<;>first|exact cg i|exact Option.some.inj i▸h
theorem cn.slice_is{q:Option Expr×Option Expr×Option Expr×Pos}(i:v.slice?=some q):e= .Slice q.1 q.2.1 q.2.2.1 q.2.2.2:=by cases v<;>first|exact cg i|exact Option.some.inj i▸h
theorem cn.list_is{q:List Expr×Pos}(i:v.list?=some q):e= .List q.1 q.2:=by cases v<;>first|exact cg i|exact Option.some.inj i▸h
theorem cn.tup_is{q:List Expr×Nat×Pos}(i:v.tup?=some q):e= .Tuple q.1 q.2.1 q.2.2:=by cases v<;>first|exact cg i|exact Option.some.inj i▸h
theorem cn.comp_is{q:Expr×List Comprehension×Scope×Pos}(i:v.comp?=some q):e= .ListComp q.1 q.2.1 q.2.2.1 q.2.2.2:=by cases v<;>first|exact cg i|exact Option.some.inj i▸h
theorem cn.lam_is{q:Arguments×Expr×Scope×Pos}(i:v.lam?=some q):e= .Lambda q.1 q.2.1 q.2.2.1 q.2.2.2:=by cases v<;>first|exact cg i|exact Option.some.inj i▸h
end
section
variable{e:Expr}
theorem bM{q:Str×Pos}(i:cT e=some q):e= .Name q.1 q.2:=cn.name_is (d9 e) i
theorem d5{q:o7}(i:gi e=some q):e= .Attribute q.o q.m q.p:=cn.attr_is (d9 e) i
theorem fU{q:o6}(i:i7 e=some q):e= .Call q.f q.as q.ks q.p:=cn.call_is (d9 e) i
theorem jf{q:Const×Nat×Pos}(i:iG e=some q):e= .Constant q.1 q.2.1 q.2.2:=cn.const_is (d9 e) i
theorem oB{q:List (Option Expr)×List Expr×Pos}(i:ib e=some q):e= .Dict q.1 q.2.1 q.2.2:=cn.dict_is (d9 e) i
theorem ue{q:Option Expr×Option Expr×Option Expr×Pos}(i:ld e=some q):e= .Slice q.1 q.2.1 q.2.2.1 q.2.2.2:=cn.slice_is (d9 e) i
theorem wQ{q:List Expr×Pos}(i:ta e=some q):e= .List q.1 q.2:=cn.list_is (d9 e) i
theorem mC{q:List Expr×Nat×Pos}(i:uz e=some q):e= .Tuple q.1 q.2.1 q.2.2:=cn.tup_is (d9 e) i
theorem CW{q:Expr×List Comprehension×Scope×Pos}(i:Hm e=some q):e= .ListComp q.1 q.2.1 q.2.2.1 q.2.2.2:=cn.comp_is (d9 e) i
theorem Af{q:Arguments×Expr×Scope×Pos}(i:DO e=some q):e= .Lambda q.1 q.2.1 q.2.2.1 q.2.2.2:=cn.lam_is (d9 e) i
noncomputable def iq(e:Expr):Option (Str×List Expr):=(i7 e).bind fun c=>if c.ks.isEmpty then (cT c.f).bind fun q=>some (q.1,c.as) else none
theorem iz{q:Str×List Expr}(i:iq e=some q): ∃p p',e= .Call (.Name q.1 p) q.2 [] p':=
 ae i fun c e1 i=>aH i fun e2 i=>ae i fun n e3 i=>Option.some.inj i▸⟨n.2,c.p,(fU e1).trans (by rw [bM e3,List.isEmpty_iff.mp e2])⟩
end
noncomputable def upd{β:Type}:List (Str×β)→Str→β→List (Str×β)
 |[],x,b=>[(x,b)]
 |(y,c)::r,x,b=>if x==y then (y,b)::r else (y,c)::upd r x b
theorem aN{β:Type}(l:List (Str×β))(x:Str)(b:β)(y:Str):(upd l x b).lookup y=if y==x then some b else l.lookup y:=by
 induction l with
 |nil=>
  show (match y==x with|true=>some b|false=>none)=_
  cases y==x<;>rfl
 |cons p r ih=>
  obtain ⟨z,c⟩:=p;show List.lookup y (if (x==z)=true then _ else _)=_
  cases h:x==z with
  |true=>
   obtain rfl:=beq_iff_eq.mp h;show (match y==x with|true=>some b|false=>r.lookup y)=if (y==x)=true then some b else match y==x with|true=>some c|false=>r.lookup y
   cases y==x<;>rfl
  |false=>
   show (match y==z with|true=>some c|false=>(upd r x b).lookup y)=if (y==x)=true then some b else match y==z with|true=>some c|false=>r.lookup y
   rw [ih]
   cases q:y==z with
   |true=>
    obtain rfl:=beq_iff_eq.mp q;rw [beq_eq_false_iff_ne.mpr fun e=>beq_eq_false_iff_ne.mp h e.symm];rfl
   |false=>rfl
theorem i8{β:Type}(l:List (Str×β))(x:Str)(b:β):l.length≤(upd l x b).length:=by
 induction l with
 |nil=>exact Nat.zero_le _
 |cons p r ih=>
  obtain ⟨z,c⟩:=p;show _≤List.length (if (x==z)=true then _ else _)
  cases x==z with
  |true=>exact Nat.le_refl _
  |false=>exact Nat.succ_le_succ ih
structure ClsRec where
 init:Addr
 meths:List (Str×Addr)
 attrs:List Str
noncomputable def cw:List (Addr×ClsRec):=[
 (197,⟨173,[],["word","raw","section","name","value","spelt"]⟩),
 (302,⟨215,[("is_over",222),("peek",229),("take",236),("skip_blanks",243),("keep",250),("read",257),("read_header",264),("read_subsection",271),("read_spelt",278),("read_value",285),("read_signs",292)],
  ["octets","at","row","pieces"]⟩),
 (575,⟨435,[("items",445),("spots",452),("has",459),("get",466),("get_all",471),("flag",564),("number",572)],["pieces"]⟩),
 (611,⟨594,[],["gitdir","branch","home"]⟩),
 (655,⟨652,[],["word","config","folder"]⟩),
 (774,⟨681,[("items",695),("get_all",700),("has",707),("get",714),("flag",722),("number",730),("subsections",737),("url_by",744),("url_of",751),("push_url_of",758),("branch_of",765),("refspecs_of",771)],
  ["levels","loader","facts"]⟩),
 (816,⟨792,[],["text","is_forced","is_negative","source","target","is_pattern"]⟩)]
noncomputable def bT(c:Addr)(m:Str):Option Addr:=(cw.lookup c).bind fun r=>r.meths.lookup m
noncomputable def attrOk(c:Addr)(f:Str):Bool:=(cw.lookup c).any fun r=>r.attrs.contains f
noncomputable def dS(x:Str):D:=.str x
noncomputable def ge(x:Str)(d:D):Str×D:=(x,d)
noncomputable def fv(a:Addr):D:=D.val (Value.ref a)
noncomputable def bv(i:String):D:=D.val (Value.builtin i)
noncomputable def tv(i:String):D:=D.val (Value.type i)
noncomputable def bV:List (Str×D):=[
 ge "config_is_letter" (fv 80),ge "config_is_sign" (fv 87),ge "config_name" (fv 94),ge "config_section" (fv 101),ge "config_key" (fv 108),
 ge "bool_of" (fv 136),ge "config_figures" (fv 143),ge "int_of" (fv 150),ge "ConfigPiece" (fv 197),ge "ConfigReader" (fv 302),ge "Config" (fv 575),ge "ConfigFacts" (fv 611),
 ge "config_condition" (fv 622),ge "config_included" (fv 637),ge "ConfigLevel" (fv 655),ge "config_no_file" (fv 666),ge "Configs" (fv 774),ge "RefSpec" (fv 816),ge "refspec_side" (fv 827),
 ge "_law_deck" (fv 850),ge "_law_draw" (fv 857),ge "_law_pick" (fv 864),ge "_law_row" (fv 871),ge "_law_file" (fv 876),ge "_law_small" (fv 881),ge "_law_key" (fv 888),
 ge "_law_figures" (fv 895),ge "_law_number" (fv 902),ge "_law_truth" (fv 909),ge "_law_heard" (fv 916),ge "_law_keys_right" (fv 921),ge "_law_by" (fv 928),ge "_law_urls_right" (fv 935),
 ge "_law_remotes_right" (fv 940),ge "CONFIG_MOST_INCLUDES" (D.int 10),ge "BadConfig" (fv 64),
 ge "len" (bv "len"),ge "ord" (bv "ord"),ge "chr" (bv "chr"),ge "repr" (bv "repr"),ge "int" (tv "int"),ge "list" (tv "list"),ge "tuple" (tv "tuple"),ge "bytes" (tv "bytes"),ge "range" (tv "range"),ge "enumerate" (tv "enumerate"),ge "zip" (tv "zip"),
 ge "CONFIG_WHITE" (D.tup [D.int 32,D.int 9,D.int 10,D.int 13]),
 ge "_law_values" (D.tup [D.none,dS "",dS "true",dS "YES",dS "on",dS "false",dS "No",dS "off",dS "0",dS "7",dS "2k",dS "-1m",dS "0x1F",dS "010",dS "08",dS "maybe",dS "3g",dS "1 2",dS "9223372036854775807",dS "9223372036854775808",dS "+5"]),
 ge "_law_heads" (D.tup [D.tup [dS "core",D.none],D.tup [dS "Core",D.none],D.tup [dS "remote",dS "origin"],D.tup [dS "remote",dS "Mine"],D.tup [dS "branch",dS "main"]]),
 ge "_law_bases" (D.tup [D.tup [dS "git://a/",dS "A:"],D.tup [dS "git://b/",dS "A:x/"],D.tup [dS "ssh://c/",dS "B"]])]
noncomputable def gu:FV→D
 | .d x=>x
 | .own l=>.lst l
noncomputable def GR(ns:ab)(x:Str)(S:St):Loc→Option (bH V×St)
 | .d d=>some (.ok (.d d),S)
 | .own l=>if ns.lookup x==some .local then some (.ok (.d (.lst l)),{S with ρ:=upd S.ρ x (.d (.lst l))}) else none
 | .ptr=>some (.ok .ptr,S)
noncomputable def fI(ns:ab)(x:Str):Ev V:=fun S=>(S.ρ.lookup x).elim (if ns.lookup x==some .globalImplicit then (bV.lookup x).bind fun d=>some (.ok (.d d),S) else none) (GR ns x S)
noncomputable def aE(e:Expr):Bool:=e.ctorIdx !=22
noncomputable def kE(r:ba)(ns:ab):List Expr→Ev (List V)
 |[]=>.pure []
 |e::rest=>fun S=>if aE e then Ev.bind (r.ev ns e) (fun v=>Ev.bind (kE r ns rest) fun vs=>.pure (v::vs)) S else none
noncomputable def fe(r:ba)(ns:ab)(e:Expr):Ev D:=Ev.bind (r.ev ns e) Nr
noncomputable def ga(r:ba)(ns:ab):List Expr→Ev (List D)
 |[]=>.pure []
 |e::rest=>fun S=>if aE e then Ev.bind (fe r ns e) (fun d=>Ev.bind (ga r ns rest) fun vs=>.pure (d::vs)) S else none
noncomputable def AV:bH D→bH V
 | .ok d=>.ok (.d d)
 | .bad=>.bad
noncomputable def dL(fn:au)(a:Addr)(args:List V):Ev V:=fun S=>
 if args.any V.isPtr then S.σ.bind fun sl=>(fn a args (some sl)).bind fun q=>(D1 q.1).bind fun d=>q.2.bind fun dQ=>some (.ok (.d d),{S with σ:=some dQ})
 else (fn a args none).bind fun q=>if q.2.isNone then some (AV q.1,S) else none
noncomputable def iZ(c:Addr)(q:bH D×Option Slot):Option (List (Str×FV)):=(D1 q.1).bind fun d=>q.2.bind fun sl=>(oG sl).bind fun p=>if GV d=true∧p.1=c then some p.2 else none
theorem oj{c:Addr}{q:bH D×Option Slot}{fs:List (Str×FV)}(h:iZ c q=some fs):q= (.ok .none,some (.inst c fs)):=
 ae h fun d e1 h=>ae h fun sl e2 h=>ae h fun p e3 h=>aH h fun e4 h=>Option.some.inj h▸e4.2▸Prod.ext ((lI e1).trans (congrArg _ (Cd e4.1))) (e2.trans (congrArg _ (kX e3)))
noncomputable def fz(fn:au)(c i:Addr)(args:List V):Ev V:=fun S=>
 if args.any V.isPtr then none else (fn i (.ptr::args) (some (.inst c []))).bind fun q=>(iZ c q).bind fun fs=>some (.ok (.d (.inst c (fs.map fun p=>(p.1,gu p.2)))),S)
noncomputable def OW(x:Str):Bool:=decide (x.length≤1000000)
noncomputable def jz:List D→Option (List UInt8)
 |[]=>some []
 |d::r=>(pP d).bind fun i=>if 0≤i∧i<256 then (jz r).map (i.toNat.toUInt8:: ·) else none
noncomputable def jY:List D→Option (List Str)
 |[]=>some []
 |d::r=>(wZ d).bind fun x=>(jY r).map (x:: ·)
noncomputable def GS:D→Option D
 | .str x=>if x.length≤sizeLine then some (.int x.length) else none
 | .bytes b=>if b.length≤sizeLine then some (.int b.length) else none
 | .lst l=>if l.length≤sizeLine then some (.int l.length) else none
 | .tup l=>if l.length≤sizeLine then some (.int l.length) else none
 |_=>none
noncomputable def NH(d:D):Option D:=(wZ d).bind fun x=>if x.length=1 then some (.int (x.cps.getD 0 0:Nat)) else none
noncomputable def Os(d:D):Option D:=(pP d).bind fun i=>if 0≤i∧i≤1114111 then some (.str ⟨#[i.toNat]⟩) else none
noncomputable def Du(d:D):Option D:=(Dj d).bind fun l=>(gV l).bind fun p=>if (PyData.list p).showable&& !(PyData.list p).hasDict&&decide ((PyData.list p).depth≤64)&&decide ((PyData.list p).shown.length≤sizeLine) then some (.str (PyData.list p).shown) else none
noncomputable def jg(id:String)(args:List D):Option D:=(pQ args).bind fun a=>bif id=="len" then GS a else bif id=="ord" then NH a else bif id=="chr" then Os a else bif id=="repr" then Du a else none
noncomputable def intD:D→Option D
 | .bool b=>some (.int (if b then 1 else 0))
 | .int i=>some (.int i)
 |_=>none
noncomputable def KN:D→Option D
 | .lst l=>if l.length≤sizeLine then some (.lst l) else none
 | .tup l=>if l.length≤sizeLine then some (.lst l) else none
 |_=>none
noncomputable def NA:D→Option D
 | .tup l=>some (.tup l)
 | .lst l=>if l.length≤sizeLine then some (.tup l) else none
 |_=>none
noncomputable def FP(d:D):Option D:=(Dj d).bind fun l=>if l.length≤sizeLine then (jz l).map .bytes else none
noncomputable def xi(id:String)(args:List D):Option D:=(pQ args).bind fun a=>bif id=="int" then intD a else bif id=="list" then KN a else bif id=="tuple" then NA a else bif id=="bytes" then FP a else none
noncomputable def kR:List V→Option (List D)
 |[]=>some []
 |v::r=>(vD v).bind fun x=>(kR r).map (x:: ·)
noncomputable def Lj(fn:au)(args:List V)(S:St):Value→Option (bH V×St)
 | .ref a=>(cw.lookup a).elim (dL fn a args S) fun c=>fz fn a c.init args S
 | .builtin id=>Ev.opt (((kR args).bind (jg id)).map .d) S
 | .type T=>Ev.opt (((kR args).bind (xi T)).map .d) S
 |_=>none
noncomputable def ux(fn:au)(f:D)(args:List V):Ev V:=fun S=>(xM f).bind (Lj fn args S)
noncomputable def NC(args:List D):Option Str:=(pQ args).bind wZ
noncomputable def KP(x:Str)(args:List D):Option D:=(pQ args).bind fun d=>(Dj d).bind fun l=>(jY l).bind fun ts=>if JoinOk x ts then some (.str (Txt.join x ts)) else none
noncomputable def kP(x:Str)(m:Str)(args:List D):Option D:=
 bif m=="lower" then (if args.isEmpty=true∧(Txt.lower x).length≤sizeLine then some (.str (Txt.lower x)) else none)
 else bif m=="join" then KP x args
 else (NC args).bind fun y=>
 bif m=="find" then some (.int (Txt.find x y))
 else bif m=="rfind" then some (.int (Txt.rfind x y))
 else bif m=="startswith" then some (.bool (Txt.startswith x y))
 else bif m=="endswith" then some (.bool (Txt.endswith x y))
 else bif m=="count" then some (.int (Txt.count x y))
 else bif m=="strip" then (if x.length≤sizeLine then some (.str (Txt.stripChars x y)) else none)
 else bif m=="split" then (if (y.length==0)=false∧x.length≤sizeLine∧(Builtin.Str.partsBetween x (Builtin.Str.occurrences x y 0 x.length (x.length+1)) y.length).length≤sizeLine then some (.lst ((Txt.split x y).map .str)) else none)
 else none
noncomputable def D2:D→Bool
 | .val (.builtin _)=>false
 |_=>true
noncomputable def Qa(c:Addr)(fs:List (Str×FV))(f:Str)(S:St):FV→Option (bH V×St)
 | .d d=>if D2 d then some (.ok (.d d),S) else none
 | .own l=>some (.ok (.d (.lst l)),{S with σ:=some (.inst c (upd fs f (.d (.lst l))))})
noncomputable def lX(f:Str):Ev V:=fun S=>S.σ.bind fun sl=>(oG sl).bind fun q=>if attrOk q.1 f then (q.2.lookup f).bind (Qa q.1 q.2 f S) else none
noncomputable def Lm(d:D)(f:Str)(S:St):Option (bH V×St):=(Bd d).bind fun q=>if attrOk q.1 f then Ev.opt (((q.2.lookup f).filter D2).map .d) S else none
noncomputable def Ll(v:V)(f:Str):Ev V:=fun S=>(vD v).elim (lX f S) fun d=>Lm d f S
noncomputable def KM(fn:au)(v:V)(m:Str)(g:Option Addr)(args:List V):Ev V:=fun S=>g.elim ((vD v).bind fun d=>(wZ d).bind fun x=>Ev.opt (((kR args).bind (kP x m)).map .d) S) fun f=>dL fn f (v::args) S
noncomputable def jm(x:Str):List D:=x.cps.toList.map fun c=>.str ⟨#[c]⟩
noncomputable def dN:D→Option (List D)
 | .lst l=>if l.length≤sizeLine then some l else none
 | .tup l=>if l.length≤sizeLine then some l else none
 | .str x=>if x.length≤sizeLine then some (jm x) else none
 |_=>none
noncomputable def nu(v:D)(i:Int):Option D:=match v with
 | .str x=>if fitsSsize i&& (Txt.charAt x i).isSome then some (.str (Txt.item x i)) else none
 | .lst l=>if 0≤i∧i<2 ^ 62 then l[i.toNat]? else if -(l.length:Int)≤i∧ -(2 ^ 62)≤i then l[(i+l.length).toNat]? else none
 | .tup l=>if -(2 ^ 62)≤i∧i<2 ^ 62 then (seqIndex? i l.length).bind (l[·]?) else none
 | .bytes b=>if 0≤i∧i<b.length∧b.length≤sizeLine then some (.int (b.getD i.toNat 0).toNat) else none
 |_=>none
noncomputable def gh:D→Option (Option Int)
 | .none=>some none
 | .int i=>if -(2 ^ 62)≤i∧i<2 ^ 62 then some (some i) else none
 |_=>none
noncomputable def i6(l:List UInt8)(lo hi:Option Int):List UInt8:=(l.drop (lo.elim 0 (clipAt l.length))).take (hi.elim l.length (clipAt l.length) - lo.elim 0 (clipAt l.length))
noncomputable def xz(l:List D)(lo hi:Option Int):List D:=(sliceRange (sliceBounds lo hi none l.length).1 (sliceBounds lo hi none l.length).2.1 (sliceBounds lo hi none l.length).2.2).filterMap (l[·]?)
noncomputable def jZ(v:D)(lo hi:Option Int):Option D:=match v with
 | .lst l=>if l.length≤sizeLine then some (.lst (xz l lo hi)) else none
 | .str x=>if x.length≤sizeLine then some (.str (Txt.slice x lo hi)) else none
 | .bytes b=>if b.length≤sizeLine then some (.bytes (i6 b lo hi)) else none
 |_=>none
noncomputable def Hl:Const→Option Str
 | .str k=>some k
 |_=>none
theorem CB{c:Const}{x:Str}(h:Hl c=some x):c= .str x:=by cases c<;>first|exact cg h|exact congrArg _ (Option.some.inj h)
noncomputable def xP(o:Option Expr):Option Str:=o.bind fun e=>(iG e).bind fun q=>Hl q.1
noncomputable def fu:List (Option Expr)→Option (List Str)
 |[]=>some []
 |k::r=>(xP k).bind fun x=>(fu r).map (x:: ·)
noncomputable def ip:List Str→Bool
 |[]=>true
 |x::r=> !r.contains x&&ip r
noncomputable def sV(r:ba)(ns:ab)(keys:List (Option Expr))(values:List Expr):Ev (List (Str×D)):=fun S=>(fu keys).bind fun ks=>
 if ip ks&&ks.length==values.length&&decide (ks.length≤15)&& !ks.isEmpty then Ev.bind (ga r ns values) (fun ds=>.pure (ks.zip ds)) S else none
noncomputable def uu(r:ba)(ns:ab):Option Expr→Ev D
 |none=>.pure .none
 |some e=>fe r ns e
noncomputable def qf(ns:ab)(x:Str)(S:St):Option (Addr×ClsRec):=
 if (S.ρ.lookup x).isNone&&ns.lookup x==some .globalImplicit then (bV.lookup x).bind fun d=>(xM d).bind fun v=>(xh v).bind fun a=>(cw.lookup a).map fun c=>(a,c) else none
noncomputable def jD(fn:au)(a:Addr)(c:ClsRec)(d:D)(m:Str):Ev V:=fun S=>
 (c.meths.lookup m).bind fun f=>(fn c.init [.ptr,.d d] (some (.inst a []))).bind fun q=>(iZ a q).bind fun fs=>if (fs.lookup m).isNone then (fn f [.ptr] (some (.inst a fs))).bind fun q=>(D1 q.1).bind fun v=>q.2.bind fun _=>some (.ok (.d v),S) else none
noncomputable def gH(S:St)(x:Str):Option (List D):=(S.ρ.lookup x).bind yb
noncomputable def EA:CmpOp→Option Bool
 | .In=>some false
 | .NotIn=>some true
 |_=>none
noncomputable def gZ(ns:ab)(op:CmpOp)(e:Expr)(S:St):Option (List D×Bool):=(EA op).bind fun AG=>(cT e).bind fun q=>
 if !(q.1=="__debug__")&&ns.lookup q.1==some .local then (gH S q.1).map fun l=>(l,AG) else none
noncomputable def qg(r:ba)(ns:ab)(l:Expr)(op:CmpOp)(e:Expr):Ev Bool:=
 Ev.bind (fe r ns l) fun a S=>(gZ ns op e S).elim (Ev.bind (fe r ns e) (fun b=>.opt (gR op a b)) S) fun q=>(As a (.lst q.1)).bind fun b=>some (.ok (if q.2 then !b else b),S)
noncomputable def sW(r:ba)(ns:ab)(l:Expr)(o1:CmpOp)(e1:Expr)(o2:CmpOp)(e2:Expr):Ev Bool:=
 Ev.bind (fe r ns l) fun a=>Ev.bind (fe r ns e1) fun b=>Ev.bind (.opt (gR o1 a b)) fun c=>
  if c then Ev.bind (fe r ns e2) fun d=>.opt (gR o2 b d) else .pure false
noncomputable def eL(r:ba)(ns:ab)(l:Expr)(ops:List CmpOp)(es:List Expr):Ev Bool:=match ops with
 |[]=>.fail
 |o1::ops=>match ops with
  |[]=>fun S=>(pQ es).bind fun e=>if behindInMarks o1 e then none else qg r ns l o1 e S
  |o2::ops=>fun S=>(lr es).bind fun q=>if !ops.isEmpty||lastMarks [o1,o2] [q.1,q.2] then none else sW r ns l o1 q.1 o2 q.2 S
noncomputable def gf(ns:ab)(x:Str):Bool:=ns.lookup x==some .cell||ns.lookup x==some .free
noncomputable def yD:Loc→Option Loc
 | .own _=>none
 |l=>some l
noncomputable def cf(ns:ab)(ρ:List (Str×Loc)):ab→Option (List (Str×Loc))
 |[]=>some []
 |p::r=>match p.2 with
  | .free=>if gf ns p.1 then (ρ.lookup p.1).bind fun l=>(yD l).bind fun l=>(cf ns ρ r).map ((p.1,l):: ·) else none
  | .local=>cf ns ρ r
  | .globalImplicit=>cf ns ρ r
  |_=>none
noncomputable def qi(σ:Option Slot)(ρ:List (Str×Loc)):Bool:=σ.isSome||ρ.all fun p=>match p.2 with
 | .ptr=>false
 |_=>true
noncomputable def fQ(ns:ab)(names:ab):Bool:=names.all fun p=>p.2== .local||p.2== .globalImplicit|| (p.2== .free&&gf ns p.1)
noncomputable def dI(sc:Scope):Bool:=sc.kind== .function&&sc.names.all fun x=>sc.names.lookup x.1==some x.2
noncomputable def cz(ns:ab)(x:Str)(l:Loc):Ev Unit:=fun S=>if ns.lookup x==some .local||ns.lookup x==some .cell then some (.ok (),{S with ρ:=upd S.ρ x l}) else none
noncomputable def cR(ns:ab):List Expr→List D→Ev Unit
 |[],ds=>fun S=>if ds.isEmpty then some (.ok (),S) else none
 |t::ts,ds=>fun S=>(cT t).bind fun q=>match ds with
  |[]=>none
  |d::ds=>Ev.bind (cz ns q.1 (.d d)) (fun _=>cR ns ts ds) S
noncomputable def js:D→Option (List D)
 | .tup l=>some l
 |_=>none
theorem jH{d:D}{ds:List D}(h:js d=some ds):d= .tup ds:=by cases d<;>first|exact cg h|exact congrArg _ (Option.some.inj h)
noncomputable def bR(ns:ab)(t:Expr)(d:D):Ev Unit:=fun S=>(cT t).elim ((uz t).bind fun q=>(js d).bind fun ds=>cR ns q.1 ds S) fun q=>cz ns q.1 (.d d) S
noncomputable def nt(r:ba)(ns:ab):List Expr→Ev Bool
 |[]=>.pure true
 |e::rest=>Ev.bind (r.evT ns e) fun b=>if b then nt r ns rest else .pure false
noncomputable def quiet{β:Type}(m:Ev β):Ev β:=fun S=>(m S).bind fun q=>(D1 q.1).map fun b=>(.ok b,q.2)
noncomputable def compLoop(r:ba)(ns:ab)(target:Expr)(ifs:List Expr)(elt:Expr):List D→Ev (List D)
 |[]=>.pure []
 |d::rest=>Ev.bind (bR ns target d) fun _=>Ev.bind (nt r ns ifs) fun b=>
   if b then Ev.bind (fe r ns elt) fun y=>Ev.bind (compLoop r ns target ifs elt rest) fun ys=>.pure (y::ys) else compLoop r ns target ifs elt rest
theorem pA{r:ba}{ns:ab}{target elt:Expr}{ifs:List Expr}{d:D}{rest:List D}:compLoop r ns target ifs elt (d::rest)=Ev.bind (bR ns target d) fun _=>Ev.bind (nt r ns ifs) fun b=>
   if b then Ev.bind (fe r ns elt) fun y=>Ev.bind (compLoop r ns target ifs elt rest) fun ys=>.pure (y::ys) else compLoop r ns target ifs elt rest:=rfl
noncomputable def cG(ns:ab)(x:Str)(S:St):Bool:=(S.ρ.lookup x).isNone&&ns.lookup x==some .globalImplicit
noncomputable def gX:Nat→List D→List D
 |_,[]=>[]
 |n,d::r=>.tup [.int n,d]::gX (n+1) r
noncomputable def oF:List D→List D→List D
 |a::r,b::q=>.tup [a,b]::oF r q
 |_,_=>[]
inductive jP where
 |plain
 |range (a:Expr)
 |enum (a:Expr)
 |zip (a b:Expr)
noncomputable def nL(x:Str)(a:Expr):jP:=bif x=="range" then .range a else bif x=="enumerate" then .enum a else .plain
noncomputable def nK(x:Str)(q:Expr×Expr):jP:=bif x=="zip" then .zip q.1 q.2 else .plain
noncomputable def dP(ns:ab)(e:Expr)(S:St):jP:=(iq e).elim .plain fun q=>bif cG ns q.1 S&&q.2.all aE then (pQ q.2).elim ((lr q.2).elim .plain (nK q.1)) (nL q.1) else .plain
noncomputable def eR(n:Nat):List D:=(List.range n).map fun (i:Nat)=>.int i
noncomputable def qe(e:Expr):Bool:=e.ctorIdx==25
noncomputable def BL(d:D):Ev (List D):=fun S=>(pP d).bind fun n=>if 0≤n∧n≤1000000 then some (.ok (eR n.toNat),S) else none
noncomputable def yx(target:Expr)(d:D):Ev (List D):=fun S=>(Dj d).bind fun l=>if l.length≤1000000∧qe target=true then some (.ok (gX 0 l),S) else none
noncomputable def Hq(target:Expr)(d d':D):Ev (List D):=fun S=>(js d).bind fun l=>(Dj d').bind fun l'=>if l.length≤1000000∧l.length=l'.length∧qe target=true then some (.ok (oF l l'),S) else none
noncomputable def eX(r:ba)(ns:ab)(e:Expr):Ev (List D):=fun S=>match dP ns e S with
 | .plain=>Ev.bind (fe r ns e) (fun d=>.opt (dN d)) S
 | .range a=>Ev.bind (fe r ns a) BL S
 |_=>none
noncomputable def jx(r:ba)(ns:ab)(target e:Expr):Ev (List D):=fun S=>match dP ns e S with
 | .enum a=>Ev.bind (fe r ns a) (yx target) S
 | .zip a b=>Ev.bind (fe r ns a) (fun d=>Ev.bind (fe r ns b) (Hq target d)) S
 |_=>eX r ns e S
noncomputable def nI(e:Expr):Bool:=e.ctorIdx !=7
noncomputable def f9(r:ba)(ns:ab)(target e:Expr):Ev (List D):=if nI e=true then jx r ns target e else .fail
noncomputable def eG(r:ba)(ns:ab)(e:Expr):Ev (List D):=if nI e=true then eX r ns e else .fail
noncomputable def dW(r:ba)(ns:ab)(elt target iter:Expr)(ifs:List Expr)(sc:Scope):Ev (List D):=
 if dI sc=true∧fQ ns sc.names=true then Ev.bind (eG r ns iter) fun items S=>(cf ns S.ρ sc.names).bind fun ρ'=>
  if items.length≤1000000∧qi S.σ ρ'=true then (quiet (compLoop r sc.names target ifs elt items) ⟨ρ',S.σ⟩).bind fun q=>(D1 q.1).bind fun l=>if q.2.σ.isSome=S.σ.isSome then some (.ok l,{S with σ:=q.2.σ}) else none else none
 else .fail
noncomputable def gc:Const→Option D
 | .none=>some .none
 | .bool b=>some (.bool b)
 | .int i=>some (.int i)
 | .str x=>some (.str x)
 | .bytes b=>some (.bytes b)
 |_=>none
noncomputable def Hn:D→Option Bool
 | .bool b=>some b
 |_=>none
theorem CX{d:D}{b:Bool}(h:Hn d=some b):d= .bool b:=by cases d<;>first|exact cg h|exact congrArg _ (Option.some.inj h)
noncomputable def lG(v:V):Option Bool:=(vD v).bind Hn
theorem nV{v:V}{b:Bool}(h:lG v=some b):v= .d (.bool b):=ae h fun d e1 e2=>CX e2▸nH e1
noncomputable def uq:BoolOp→Bool
 | .And=>true
 | .Or=>false
noncomputable def xK(r:ba)(ns:ab)(op:BoolOp):List Expr→Ev V
 |[]=>.fail
 |e::rest=>match rest with
  |[]=>r.ev ns e
  |_=>Ev.bind (r.ev ns e) fun v S=>(lG v).bind fun b=>bif uq op==b then xK r ns op rest S else some (.ok v,S)
noncomputable def uy(r:ba)(ns:ab)(op:BoolOp):List Expr→Ev Bool
 |[]=>.pure (uq op)
 |e::rest=>Ev.bind (r.evT ns e) fun b S=>bif uq op==b then uy r ns op rest S else some (.ok b,S)
noncomputable def Gn(e:Expr):Option (List (Option Expr)×List Expr):=(gi e).bind fun q=>(ib q.o).bind fun d=>if q.m=="get" then some (d.1,d.2.1) else none
noncomputable def iY(ps:Arguments):Bool:=ps.posonlyargs.isEmpty&&ps.args.isEmpty&&ps.vararg.isNone&&ps.kwonlyargs.isEmpty&&ps.kw_defaults.isEmpty&&ps.kwarg.isNone&&ps.defaults.isEmpty
noncomputable def d8(sc:Scope)(x y:Str):Bool:=sc.kind== .function&& !sc.isGenerator&& !sc.isCoroutine&&sc.names.lookup x==some .free&&sc.names.lookup y==some .free&&sc.names.all fun p=>p.2== .free&& (p.1==x||p.1==y)
noncomputable def dZ(ns:ab):Bool:=(ns.lookup ("wanted":Str)).isSome&& (ns.lookup ("below":Str)).isSome
noncomputable def mi(ns:ab)(e:Expr)(g:Bool):Option (Expr×Str×List Expr):=(i7 e).bind fun c0=>(cT c0.f).bind fun f=>(pQ c0.as).bind fun a=>(DO a).bind fun l=>(i7 l.2.1).bind fun c=>(gi c.f).bind fun q=>(cT q.o).bind fun x=>(lr c.as).bind fun yk=>(cT yk.1).bind fun y=>(iG yk.2).bind fun _=>
 if c0.ks.isEmpty&&c.ks.isEmpty&&f.1=="_law_heard"&&dZ ns&&g&&q.p.endLine==c.p.line&&iY l.1&&d8 l.2.2.1 x.1 y.1&&ns.lookup x.1==some .cell&&ns.lookup y.1==some .cell&& !(x.1=="__debug__")&& !(y.1=="__debug__")&& !(x.1=="__classdict__")&& !(y.1=="__classdict__") then some (q.o,q.m,c.as) else none
noncomputable def cM(ns:ab)(e:Expr)(S:St):Option (Expr×Str×List Expr):=mi ns e (cG ns "_law_heard" S)
noncomputable def iX:List (Str×String):=[("lower","str.lower"),("find","str.find"),("rfind","str.rfind"),("startswith","str.startswith"),("endswith","str.endswith"),("count","str.count"),("strip","str.strip"),("split","str.split"),("join","str.join")]
noncomputable def pW(c:Addr)(b:Bool)(m:Str)(S:St):Option (bH (Option Addr)×St):=if (bT c m).isSome&&b then some (.ok (bT c m),S) else none
noncomputable def jv(v:V)(m:Str):Ev (Option Addr):=fun S=>(vD v).elim (S.σ.bind fun sl=>(oG sl).bind fun q=>pW q.1 (q.2.lookup m).isNone m S) fun d=>
 (wZ d).elim ((Bd d).bind fun q=>pW q.1 (q.2.lookup m).isNone m S) fun _=>if (iX.lookup m).isSome then some (.ok none,S) else none
noncomputable def sU(fn:au)(r:ba)(ns:ab)(o:Expr)(m:Str)(args:List Expr):Ev V:=Ev.bind (r.ev ns o) fun v=>Ev.bind (jv v m) fun g=>Ev.bind (kE r ns args) fun vs=>KM fn v m g vs
noncomputable def u4(fn:au)(r:ba)(ns:ab)(f:Expr)(args:List Expr):Ev V:=Ev.bind (r.ev ns f) fun g=>Ev.bind (Nr g) fun g=>Ev.bind (kE r ns args) fun vs=>ux fn g vs
noncomputable def Le(kv:List (Str×D))(key dflt:D):Ev V:=fun S=>(wZ key).bind fun x=>some (.ok (.d ((kv.lookup x).getD dflt)),S)
noncomputable def dictGet(r:ba)(ns:ab)(ks:List (Option Expr))(vs:List Expr)(k d:Expr):Ev V:=Ev.bind (sV r ns ks vs) fun kv=>Ev.bind (fe r ns k) fun key=>Ev.bind (fe r ns d) fun dflt=>Le kv key dflt
noncomputable def sC(ns:ab)(o:Expr)(S:St):Option ((Addr×ClsRec)×Expr):=(iq o).bind fun q=>(pQ q.2).bind fun a=>(qf ns q.1 S).map fun C=>(C,a)
noncomputable def FJ(fn:au)(r:ba)(ns:ab)(o:Expr)(m:Str)(args:List Expr):Ev V:=fun S=>(ib o).elim
 ((sC ns o S).elim (sU fn r ns o m args S) fun t=>if args.isEmpty&&aE t.2 then Ev.bind (fe r ns t.2) (fun d=>jD fn t.1.1 t.1.2 d m) S else none)
 fun d=>(lr args).bind fun kd=>if m=="get" then dictGet r ns d.1 d.2.1 kd.1 kd.2 S else none
noncomputable def oU(fn:au)(r:ba)(ns:ab)(f:Expr)(args:List Expr):Ev V:=fun S=>(cT f).elim ((gi f).bind fun q=>FJ fn r ns q.o q.m args S) fun _=>u4 fn r ns f args S
noncomputable def cj:bH D→D
 | .ok d=>d
 | .bad=>.str "bad"
noncomputable def pt(fn:au)(r:ba)(ns:ab)(o:Expr)(m:Str)(args:List Expr):Ev V:=fun S=>(cT o).bind fun x=>(lr args).bind fun yk=>(cT yk.1).bind fun y=>(iG yk.2).bind fun k=>
 (S.ρ.lookup x.1).bind fun l=>(AW l).bind fun d=>(Bd d).bind fun q=>(S.ρ.lookup y.1).bind fun l'=>(AW l').bind fun key=>(gc k.1).bind fun dflt=>(bT q.1 m).bind fun f=>
 if (q.2.lookup m).isNone then (fn f [.d (.inst q.1 q.2),.d key,.d dflt] none).bind fun p=>if p.2.isNone then some (.ok (.d (cj p.1)),S) else none else none
noncomputable def Cu(kv:List (Str×D))(key:D):Ev V:=fun S=>(wZ key).bind fun x=>(kv.lookup x).bind fun d=>some (.ok (.d d),S)
noncomputable def Hw(o a b:D):Ev V:=fun S=>(gh a).bind fun a=>(gh b).bind fun b=>(jZ o a b).bind fun d=>some (.ok (.d d),S)
noncomputable def KR(o i:D):Ev V:=fun S=>(pP i).bind fun i=>(nu o i).bind fun d=>some (.ok (.d d),S)
noncomputable def subDict(r:ba)(ns:ab)(ks:List (Option Expr))(vs:List Expr)(k:Expr):Ev V:=Ev.bind (sV r ns ks vs) fun kv=>Ev.bind (fe r ns k) (Cu kv)
noncomputable def pc(r:ba)(ns:ab)(v:Expr)(lo hi:Option Expr):Ev V:=Ev.bind (fe r ns v) fun o=>Ev.bind (uu r ns lo) fun a=>Ev.bind (uu r ns hi) (Hw o a)
noncomputable def kZ(r:ba)(ns:ab)(v i:Expr):Ev V:=Ev.bind (fe r ns v) fun o=>Ev.bind (fe r ns i) (KR o)
noncomputable def Lg(r:ba)(ns:ab)(v sl:Expr):Ev V:=fun S=>(ib v).elim ((ld sl).elim (kZ r ns v sl S) fun q=>if q.2.2.1.isNone then pc r ns v q.1 q.2.1 S else none) fun q=>subDict r ns q.1 q.2.1 sl S
noncomputable def yH:Expr→Bool
 | .Call (.Name _ _) [] [] _=>false
 |_=>true
noncomputable def cF(f:Expr)(p:Pos):Bool:=match f with
 | .Attribute o _ ap=>ap.endLine==p.line&&yH o
 |_=>true
noncomputable def sL(e:Expr):Bool:=e.ctorIdx==23||e.ctorIdx==20||e.ctorIdx==21
noncomputable def oD(fn:au)(r:ba)(ns:ab):Expr→Ev V
 | .Constant c _ _=>.opt ((gc c).map .d)
 | .Name x _=>fun S=>if x=="__debug__" then none else fI ns x S
 | .BinOp l op e _=>Ev.bind (fe r ns l) fun a=>Ev.bind (fe r ns e) fun b=>.opt ((lz op a b).map .d)
 | .UnaryOp op e _=>Ev.bind (fe r ns e) fun a=>.opt ((O3 op a).map .d)
 | .BoolOp op es _=>xK r ns op es
 | .Compare l ops es _=>Ev.bind (eL r ns l ops es) fun b=>.pure (.d (.bool b))
 | .IfExp t a b _=>Ev.bind (r.evT ns t) fun c=>if c then r.ev ns a else r.ev ns b
 | .Tuple es _ _=>fun S=>if es.length≤1000 then Ev.bind (ga r ns es) (fun ds=>.pure (.d (.tup ds))) S else none
 | .List es _=>fun S=>if es.length≤1000 then Ev.bind (ga r ns es) (fun ds=>.pure (.d (.lst ds))) S else none
 | .Attribute o f _=>fun S=>if sL o then Ev.bind (r.ev ns o) (fun v=>Ll v f) S else none
 | .Subscript v sl _=>Lg r ns v sl
 | .ListComp elt [⟨target,iter,ifs,0⟩] sc _=>Ev.bind (dW r ns elt target iter ifs sc) fun l=>.pure (.d (.lst l))
 | .Call f args [] p=>fun S=>(cM ns (.Call f args [] p) S).elim (if decide (args.length≤8)&&cF f p&&args.all aE then oU fn r ns f args S else none) fun q=>pt fn r ns q.1 q.2.1 q.2.2 S
 |_=>.fail
noncomputable def vv(r:ba)(ns:ab):Expr→Ev Bool
 | .UnaryOp .Not e _=>Ev.bind (r.evT ns e) fun b=>.pure (!b)
 | .BoolOp op es _=>uy r ns op es
 | .IfExp t a b _=>Ev.bind (r.evT ns t) fun c=>if c then r.evT ns a else r.evT ns b
 | .Compare l ops es _=>eL r ns l ops es
 |e=>Ev.bind (r.ev ns e) fun v=>.opt (lG v)
noncomputable def lj(r:ba)(ns:ab):List Stmt→Ev Fl
 |[]=>.pure .next
 |st::rest=>Ev.bind (r.ex ns st) fun f=>match f with
  | .next=>lj r ns rest
  |f=>.pure f
noncomputable def forLoop(r:ba)(ns:ab)(target:Expr)(body:List Stmt):List D→Ev Fl
 |[]=>.pure .next
 |d::rest=>Ev.bind (bR ns target d) fun _=>Ev.bind (lj r ns body) fun f=>match f with
  | .ret v=>.pure (.ret v)
  |_=>forLoop r ns target body rest
noncomputable def eJ(r:ba)(ns:ab)(GM:Expr)(body:List Stmt):Nat→Ev Fl
 |0=>.fail
 |n+1=>Ev.bind (r.evT ns GM) fun b=>if b then Ev.bind (lj r ns body) fun f=>(match f with
   | .ret v=>.pure (.ret v)
   |_=>eJ r ns GM body n) else .pure .next
noncomputable def df:Nat:=100000
noncomputable def j8(fs:List (Str×FV))(f:Str)(y:FV):Bool:=(Mf y).isNone|| !((fs.lookup f).any fun y=>(Mf y).isSome)
noncomputable def gj(f:Str)(y:FV):Ev Unit:=fun S=>S.σ.bind fun sl=>(oG sl).bind fun q=>if attrOk q.1 f&&decide (q.2.length≤50)&&j8 q.2 f y then some (.ok (),{S with σ:=some (.inst q.1 (upd q.2 f y))}) else none
noncomputable def dH(S:St)(x:Str):Bool:=(S.ρ.lookup x).any ya&& !(x=="__debug__")
noncomputable def eW(r:ba)(ns:ab)(x:Str)(many:Bool)(e:Expr):Ev Fl:=
 Ev.bind (fe r ns e) fun d S=>(gH S x).bind fun l=>bif many then ((Dj d).bind fun l'=>if l.length+l'.length≤1000000 then some (.ok .next,{S with ρ:=upd S.ρ x (.own (l++l'))}) else none)
  else if l.length≤1000000 then some (.ok .next,{S with ρ:=upd S.ρ x (.own (l++ [d]))}) else none
noncomputable def oq(ns:ab)(x f y:Str):Ev Fl:=fun S=>
 if dH S x then (S.ρ.lookup y).bind fun ly=>(AW ly).bind fun d=>S.σ.bind fun sl=>(oG sl).bind fun q=>if attrOk q.1 f then (q.2.lookup f).bind fun z=>(Mf z).bind fun l=>if l.length≤1000000 then some (.ok .next,{S with σ:=some (.inst q.1 (upd q.2 f (.own (l++ [d]))))}) else none else none
 else none
structure le where
 x:Str
 m:Str
 a:Expr
 ok:Bool
noncomputable def ownCall(e:Expr):Option le:=(i7 e).bind fun c=>(gi c.f).bind fun q=>(cT q.o).bind fun x=>(pQ c.as).bind fun a=>if c.ks.isEmpty then some ⟨x.1,q.m,a,q.p.endLine==c.p.line⟩ else none
structure mG where
 x:Str
 f:Str
 m:Str
 y:Str
 ok:Bool
noncomputable def jE(e:Expr):Option mG:=(i7 e).bind fun c=>(gi c.f).bind fun q=>(gi q.o).bind fun q'=>(cT q'.o).bind fun x=>(pQ c.as).bind fun a=>(cT a).bind fun y=>if c.ks.isEmpty then some ⟨x.1,q'.m,q.m,y.1,q.p.endLine==c.p.line⟩ else none
noncomputable def l9(e:Expr):Bool:=(i7 e).any fun c=>(gi c.f).isSome&&c.ks.isEmpty
noncomputable def sT(r:ba)(ns:ab)(e:Expr):Ev Fl:=Ev.bind (r.ev ns e) fun _=>.pure .next
noncomputable def DH(r:ba)(ns:ab)(q:le)(S:St):Option (bH Fl×St):=if ns.lookup q.x==some .local&& !(q.x=="__debug__")&&q.ok&&aE q.a then (bif q.m=="append" then eW r ns q.x false q.a S else bif q.m=="extend" then eW r ns q.x true q.a S else none) else none
noncomputable def FF(ns:ab)(q:mG)(S:St):Option (bH Fl×St):=if q.m=="append"&&q.ok&& !(q.x=="__debug__")&& !(q.y=="__debug__") then oq ns q.x q.f q.y S else none
noncomputable def hJ(r:ba)(ns:ab)(e:Expr):Ev Fl:=fun S=>(ownCall e).elim ((jE e).elim (if l9 e then sT r ns e S else none) fun q=>FF ns q S) fun q=>(gH S q.x).elim (sT r ns e S) fun _=>DH r ns q S
noncomputable def Fm:List D→Option (List Int)
 |[]=>some []
 |d::r=>(pP d).bind fun i=>(Fm r).map (i:: ·)
noncomputable def KL(cells:List Int):Int:=cells.foldl (fun m c=>(m*31+c).fmod 1000003) 7
noncomputable def OX(EY:List Int):Slot:=let cells:=EY.take 48;.deck cells.reverse (KL cells)
noncomputable def gq(e:Expr):Bool:=e.ctorIdx !=8&&e.ctorIdx !=9&&e.ctorIdx !=10
noncomputable def ju(ns:ab)(line:Nat):List Expr→Option (List Str)
 |[]=>some []
 |t::r=>(cT t).bind fun q=>if ns.lookup q.1==some .local&&q.2.line==line then (ju ns line r).map (q.1:: ·) else none
noncomputable def kV(ns:ab)(ts:List Expr)(v:Expr):Option Bool:=(uz v).elim (if (ta v).isSome then none else some false) fun q=>
 if (ts.length==2||ts.length==3)&&q.1.length==ts.length&&q.1.all aE then (ju ns ((ts.head?.map (·.pos.line)).getD 0) ts).bind fun names=>
  if names.eraseDups.length==names.length then (if q.1.all (foldedForSure 8) then some false else if q.1.all (constantsAlone 8) then none else some true) else none else none
noncomputable def cm(e:Expr):Bool:=(ta e).any fun q=>q.1.isEmpty
structure ey where
 elt:Expr
 target:Expr
 iter:Expr
 ifs:List Expr
 sc:Scope
 pos:Pos
noncomputable def ke(e:Expr):Option ey:=(Hm e).bind fun q=>(pQ q.2.1).bind fun g=>if g.is_async=0 then some ⟨q.1,g.target,g.iter,g.ifs,q.2.2.1,q.2.2.2⟩ else none
noncomputable def ii(r:ba)(ns:ab)(x:Str)(v:Expr):Ev Fl:=Ev.bind (fe r ns v) fun d=>Ev.bind (cz ns x (.d d)) fun _=>.pure .next
noncomputable def gk(r:ba)(ns:ab)(x:Str)(q:ey):Ev Fl:=Ev.bind (dW r ns q.elt q.target q.iter q.ifs q.sc) fun l=>Ev.bind (cz ns x (.d (.lst l))) fun _=>.pure .next
noncomputable def sS(r:ba)(ns:ab)(x:Str)(v:Expr):Ev Fl:=fun S=>
 if cm v then (if ns.lookup x==some .local then Ev.bind (cz ns x (.own [])) (fun _=>.pure .next) S else none)
 else (ke v).elim (if gq v then ii r ns x v S else none) fun q=>gk r ns x q S
noncomputable def ER(ns:ab)(ts:List Expr)(d:D):Ev Fl:=fun S=>(js d).bind fun ds=>Ev.bind (cR ns ts.reverse ds.reverse) (fun _=>.pure .next) S
noncomputable def nR(r:ba)(ns:ab)(ts:List Expr)(k:Nat)(p:Pos)(v:Expr):Ev Fl:=fun S=>(kV ns ts v).bind fun b=>
 bif b then Ev.bind (fe r ns v) (ER ns ts) S else Ev.bind (fe r ns v) (fun d=>Ev.bind (bR ns (.Tuple ts k p) d) fun _=>.pure .next) S
noncomputable def OU(e:Expr):Option Str:=(cT e).map (·.1)
noncomputable def lP(r:ba)(ns:ab)(x f:Str)(v:Expr):Ev Fl:=fun S=>
 if cm v then (if dH S x then Ev.bind (gj f (.own [])) (fun _=>.pure .next) S else none)
 else Ev.bind (fe r ns v) (fun d S=>if dH S x then Ev.bind (gj f (.d d)) (fun _=>.pure .next) S else none) S
noncomputable def zV(r:ba)(ns:ab)(t v:Expr):Ev Fl:=fun S=>(cT t).elim ((gi t).elim ((uz t).bind fun q=>nR r ns q.1 q.2.1 q.2.2 v S) fun q=>(cT q.o).bind fun x=>lP r ns x.1 q.m v S) fun q=>sS r ns q.1 v S
noncomputable def yf:Const→Bool
 | .int i=>i==0
 |_=>false
noncomputable def tR(ns:ab)(e:Expr)(S:St):Bool:=(iq e).any fun q=>(pQ q.2).any fun a=>(iG a).any fun k=>yf k.1&&q.1== ("BadConfig":Str)&&cG ns q.1 S
noncomputable def vp(r:ba)(ns:ab):Stmt→Ev Fl
 | .Expr e _=>hJ r ns e
 | .Assign [t] v _=>zV r ns t v
 | .If t a b _=>Ev.bind (r.evT ns t) fun c=>if c then lj r ns a else lj r ns b
 | .While t body [] _=>quiet (eJ r ns t body df)
 | .For target iter body [] _=>Ev.bind (f9 r ns target iter) fun items S=>if items.length≤2000000 then quiet (forLoop r ns target body items) S else none
 | .Return (some e) _=>Ev.bind (fe r ns e) fun d=>.pure (.ret d)
 | .Return none _=>.pure (.ret .none)
 | .Raise (some e) none _=>fun S=>if tR ns e S then some (.bad,S) else none
 | .Continue _=>.pure .cont
 |_=>.fail
noncomputable def ah(fn:au):Nat→ba
 |0=>⟨fun _ _=>.fail,fun _ _=>.fail,fun _ _=>.fail⟩
 |n+1=>⟨oD fn (ah fn n),vv (ah fn n),vp (ah fn n)⟩
structure dj where
 st:Stmt
 defs:List D
noncomputable def fr(a:Addr)(st:Stmt)(ds:List D):Addr×dj:=(a,⟨st,ds⟩)
noncomputable def lC:List (Addr×dj):=[
 fr 80 (bg 9) [],fr 87 (bg 10) [],fr 94 (bg 11) [],fr 101 (bg 12) [],fr 108 (bg 13) [],fr 136 (bg 17) [],fr 143 (bg 18) [],fr 150 (bg 19) [],
 fr 173 (bB 21 0) [dS "",dS "",.none,dS ""],fr 215 (bB 22 0) [],fr 222 (bB 22 1) [],fr 229 (bB 22 2) [],fr 236 (bB 22 3) [],fr 243 (bB 22 4) [],fr 250 (bB 22 5) [],fr 257 (bB 22 6) [],fr 264 (bB 22 7) [],
 fr 271 (bB 22 8) [],fr 278 (bB 22 9) [],fr 285 (bB 22 10) [],fr 292 (bB 22 11) [],
 fr 435 (bB 47 0) [.bytes []],fr 445 (bB 47 2) [],fr 452 (bB 47 3) [],fr 459 (bB 47 4) [],fr 466 (bB 47 5) [],fr 471 (bB 47 6) [],fr 564 (bB 47 19) [.bool false],fr 572 (bB 47 20) [.int 0],
 fr 594 (bB 48 0) [dS "",.none,dS ""],fr 622 (bg 49) [],fr 637 (bg 51) [dS "",.int 0],fr 652 (bB 52 0) [dS ""],fr 681 (bB 54 0) [.val (.ref 666),.none],fr 695 (bB 54 2) [],fr 700 (bB 54 3) [],
 fr 707 (bB 54 4) [],fr 714 (bB 54 5) [],fr 722 (bB 54 6) [.bool false],fr 730 (bB 54 7) [.int 0],fr 737 (bB 54 8) [],fr 744 (bB 54 9) [],fr 751 (bB 54 10) [],fr 758 (bB 54 11) [],fr 765 (bB 54 12) [],
 fr 771 (bB 54 13) [dS "fetch"],fr 792 (bB 55 0) [],fr 827 (bg 56) [],fr 864 (bg 64) [],fr 871 (bg 65) [],fr 876 (bg 66) [],fr 881 (bg 67) [],fr 888 (bg 68) [],fr 895 (bg 69) [],fr 902 (bg 70) [],
 fr 909 (bg 71) [],fr 921 (bg 73) [],fr 928 (bg 74) [],fr 935 (bg 75) [],fr 940 (bg 76) [],fr 945 (bg 77) []]
noncomputable def bq:Stmt→List Str
 | .FunctionDef _ ps _ _ _ _ _ _ _ _=>ps.args.map (·.arg)
 |_=>[]
noncomputable def ak:Stmt→List Stmt
 | .FunctionDef _ _ b _ _ _ _ _ _ _=>b
 |_=>[]
noncomputable def ai:Stmt→Scope
 | .FunctionDef _ _ _ _ _ _ s _ _ _=>s
 |_=>default
noncomputable def kC:V→Loc
 | .d x=>.d x
 | .ptr=>.ptr
noncomputable def gY:Fl→D
 | .ret v=>v
 |_=>.none
noncomputable def NG(q:bH Fl×St):Option (bH D×Option Slot):=(D1 q.1).elim (if q.2.σ.isNone then some (.bad,none) else none) fun f=>some (.ok (gY f),q.2.σ)
noncomputable def Ds(r:ba)(F:dj):List V→Option Slot→Option (bH D×Option Slot):=fun args σ=>
 let ps:=bq F.st
 if args.length≤ps.length∧ps.length≤args.length+F.defs.length then
  (lj r (ai F.st).names (ak F.st) ⟨ps.zip (args.map kC++ (F.defs.drop (args.length+F.defs.length - ps.length)).map .d),σ⟩).bind NG
 else none
noncomputable def xQ:Slot→Option (List Int×Int)
 | .deck c m=>some (c,m)
 | .inst _ _=>none
theorem vQ{s:Slot}{q:List Int×Int}(h:xQ s=some q):s= .deck q.1 q.2:=by cases s<;>first|exact cg h|exact Option.some.inj h▸rfl
noncomputable def dX(many:Int)(cells:List Int)(am:Int):Int×Slot:=cells.getLast?.elim (((((am*16807+11).fmod 2147483647).fdiv 64).fmod many),.deck [] ((am*16807+11).fmod 2147483647)) fun c=>(c.fmod many,.deck cells.dropLast am)
noncomputable def sX(args:List V)(σ:Option Slot):Option (bH D×Option Slot):=(lr args).bind fun p=>if p.1.isPtr=true then (vD p.2).bind fun d=>(pP d).bind fun many=>σ.bind fun sl=>(xQ sl).bind fun q=>
 if 0<many∧many≤1000∧0≤q.2∧q.2<2147483647∧q.1.length≤1000 then some (.ok (.int (dX many q.1 q.2).1),some (dX many q.1 q.2).2) else none else none
noncomputable def run:Nat→au
 |0=>fun _ _ _=>none
 |n+1=>fun a args σ=>if a=857 then sX args σ else (lC.lookup a).bind fun F=>Ds (ah (run n) 60) F args σ
theorem qI{h₀ h h':Heap}(K:OldK h₀ h)(hk: ∀b o,b<h₀.objs.size→h.get? b=some o→h'.get? b=some o):OldK h₀ h':=
 ⟨fun b o e=>by
  have hb:=Heap.lt_size e;rcases K.old b o e with x|⟨t,hc,vs,so,hv,x⟩|⟨rfl,hc,⟨o',es,n,pO,r⟩,z⟩
  ·exact .inl (hk _ _ hb x)
  ·exact .inr (.inl ⟨t,hc,vs,so,hv,hk _ _ hb x⟩)
  ·exact .inr (.inr ⟨rfl,hc,⟨o',es,n,hk _ _ hb pO,r⟩,fun key=>by rw [OldK.staticOf_congr ((hk _ _ hb pO).trans pO.symm) key];exact z key⟩),
  fun b o e=>let ⟨o',pO⟩:=K.there b o e;⟨o',hk _ _ (Heap.lt_size e) pO⟩⟩
section keeps
variable{h h':Heap}{G:Addr→Prop}{lab:ag}(k: ∀b o,h.get? b=some o→h'.get? b=some o)
include k
theorem bZ.keeps{L:cP}{v:Value}{l:List D}(x:bZ h G lab L v l):bZ h' G lab L v l:=by
 obtain ⟨a,vs,n,e,hl,ha,r⟩:=x;exact ⟨a,vs,n,e,hl,ha.keep k,r.keeps k⟩
theorem cQ.keeps{f:Str}{v:Value}{y:FV}(x:cQ h G lab f v y):cQ h' G lab f v y:=by
 cases y with
 |d d=>exact aD.keeps x k
 |own l=>exact bZ.keeps k x
theorem bp.keeps{f:Str}{v:Value}{y:Loc}(x:bp h G lab f v y):bp h' G lab f v y:=by
 cases y with
 |d d=>exact aD.keeps x k
 |own l=>exact bZ.keeps k x
 |ptr=>exact x
theorem bf.keeps{w:World}{σ:Option Slot}(x:bf w h G lab σ):bf w h' G lab σ:=by
 cases σ with
 |none=>trivial
 |some σ=>
  cases σ with
  |inst c fs=>
   obtain ⟨a,d,es,n,h1,h2,h3,h4,h5,h6,h7⟩:=x;exact ⟨a,d,es,n,h1,h2,h3.keep k,h4.keep k,h5,h6,fun f y e=>let ⟨v,h8,h9⟩:=h7 f y e;⟨v,h8,h9.keeps k⟩⟩
  |deck cells am=>
   obtain ⟨d,es,n,v,u,h1,h2,h3,h4,h5,h6⟩:=x;exact ⟨d,es,n,v,u,h1,h2.keep k,h3,h4,h5.keeps k,h6⟩
end keeps
theorem ch.keeps{x:Cx}{G:Addr→Prop}{lab:ag}{outer:List Env}{s s':Shared}(C:ch x G lab outer s)(k:Keeps s s'):ch x G lab outer s':=by
 obtain ⟨h',t,rfl,k⟩:=k;exact ⟨C.old.step_keeps k,C.os,C.gens,fun a e=>let ⟨q,c,d,y,z,n⟩:=C.res a e;⟨q,c,d,y,z.keep k,n⟩,
  fun env he=>let ⟨q,L,d,y,e,r,z,m⟩:=C.fr env he;⟨q,L,d,y,e,r,z.keep k,m⟩,C.inj,C.disj,C.tab.1,C.tab.2.keep k⟩
theorem Inv.keeps{c:Fc}{lab:ag}{S:St}{s s':Shared}(I:Inv c lab S s)(k:Keeps s s'):Inv c lab S s':=by
 have hk:=al k;refine ⟨I.core.keeps k,I.isFrame, ?_, ?_, ?_,I.slot.keeps hk⟩
 ·obtain ⟨cl,es,n,h1,h2,h3,h4⟩:=I.frame
  exact ⟨cl,es,n,h1.keep hk,h2,h3,fun x l e q=>let ⟨v,h5,h6⟩:=h4 x l e q;⟨v,h5,h6.keeps hk⟩⟩
 ·intro x l e q
  obtain ⟨h1,a,v,h2,h3,h4,h5,h6⟩:=I.cells x l e q;exact ⟨h1,a,v,h2,h3,h4,h5.keep hk,h6.keeps hk⟩
 ·intro hc x e
  obtain ⟨a,v,h1,h2,h3⟩:=I.bare hc x e;exact ⟨a,v,h1,h2,h3.keep hk⟩
noncomputable def Mi(lab:ag)(h bs:Heap):Prop:=∀a o,lab a=none→h.get? a=some o→o.cls≠ .none→(o.cls≠ .type "frame"∨∃vs,o.data= .fields vs)→Ho bs a o
noncomputable def OR(c:Fc)(ea:Addr)(bs:Heap)(s':Shared):Prop:=
 (∃a0,Heap.FlyingW bs c.outer ea (.ref 64) a0 s'.heap)∨(∃oe vs a0,s'.heap.get? ea=some oe∧oe.cls= .ref 64∧oe.data= .fields vs∧vs[0]? =some a0∧vs[1]? =some .none∧bs.StaysIn s'.heap∧bs.get? ea=none∧s'.heap.FunFrames bs c.outer)
noncomputable def ji(c:Fc)(lab:ag)(s:Shared)(e:Value)(s':Shared):Prop:=
 ∃ea bs,e= .ref ea∧Mi lab s.heap bs∧(∀a o o0,c.x.base.get? a=some o0→s'.heap.get? a=some o→bs.get? a=some o)∧OR c ea bs s'∧dK bs
theorem ji.back{c:Fc}{lab lab1:ag}{s s1 s':Shared}{e:Value}(x:ji c lab1 s1 e s')(k:Kept lab s.heap lab1 s1.heap):ji c lab s e s':=by
 refine bc fun no=> ?_;obtain ⟨ea,bs,h1,h2,h3⟩:=x;refine no ?_;clear no;refine ⟨ea,bs,h1,fun a o e q n m=> ?_,h3⟩;refine bc fun no=> ?_;obtain ⟨⟨sl,q1,q2⟩,q3⟩:=k a o e q n;obtain ⟨dQ,r1,r2⟩:=h2 a _ q3 q1 n m;refine no ?_;clear no;exact ⟨dQ,r1,fun z=>(r2 z).trans (q2 z)⟩
noncomputable def bN(lab lab':ag):Prop:=∀a,lab a=some .sobj→lab' a=some .sobj
noncomputable def aV(lab lab':ag):Prop:=(∀a x,lab' a=some (.loc x)→lab a=some (.loc x))∧bN lab lab'
theorem aV.refl(lab:ag):aV lab lab:=⟨fun _ _ e=>e,fun _ e=>e⟩
theorem aV.trans{l1 l2 l3:ag}(x:aV l1 l2)(y:aV l2 l3):aV l1 l3:=⟨fun a n e=>x.1 a n (y.1 a n e),fun a e=>y.2 a (x.2 a e)⟩
noncomputable def dl(c:Fc)(lab:ag)(s:Shared)(S':St){β:Type}(r:bH β)(E:Value→Shared→Prop):Prop:=
 ∀e lab' s',r= .bad→Inv c lab' S' s'→Kept lab s.heap lab' s'.heap→ji c lab s e s'→E e s'
theorem dl.step{c:Fc}{lab lab1:ag}{s s1:Shared}{S':St}{β:Type}{r:bH β}{E:Value→Shared→Prop}(h:dl c lab s S' r E)(k:Kept lab s.heap lab1 s1.heap):dl c lab1 s1 S' r E:=
 fun e lab' s' q I k' f=>h e lab' s' q I (k.trans k') (f.back k)
noncomputable def gL{α β:Type}(c:Fc)(t:Sem α)(f:Ev β)(R:Heap→ag→α→β→Prop):Prop:=
 ∀(S:St) (lab:ag) (s:Shared) (r:bH β) (S':St),f S=some (r,S')→Inv c lab S s→∀(Q:α→Shared→Prop) (E:Value→Shared→Prop),
  (∀a b lab' s',r= .ok b→Inv c lab' S' s'→Kept lab s.heap lab' s'.heap→aV lab lab'→R s'.heap lab' a b→Q a s')→dl c lab s S' r E→
  wpAny (model pw c.x.w) c.A t Q E s
theorem bind_some{β γ:Type}{m:Ev β}{k:β→Ev γ}{S S':St}{r:bH γ}(e:Ev.bind m k S=some (r,S')):
  (m S=some (.bad,S')∧r= .bad)∨∃b S1,m S=some (.ok b,S1)∧k b S1=some (r,S'):=by
 unfold Ev.bind at e
 split at e
 ·exact cg e
 ·rename_i S1 q;cases e;exact .inl ⟨q,rfl⟩
 ·rename_i b S1 q;exact .inr ⟨b,S1,q,e⟩
theorem nd{β γ:Type}{m:Ev β}{k:β→Ev γ}{S S':St}{r:bH γ}{P:Prop}(e:Ev.bind m k S=some (r,S'))(k1:m S=some (.bad,S')→r= .bad→P)(k2: ∀b S1,m S=some (.ok b,S1)→k b S1=some (r,S')→P):P:=
 (bind_some e).elim (fun q=>k1 q.1 q.2) fun ⟨b,S1,q,e⟩=>k2 b S1 q e
theorem fX{β:Type}{x r:bH β}{S S':St}{P:Prop}(e:some (x,S)=some (r,S'))(k:r=x→S'=S→P):P:=k (congrArg Prod.fst (Option.some.inj e)).symm (congrArg Prod.snd (Option.some.inj e)).symm
theorem gL.step{α β γ:Type}{c:Fc}{t:Sem α}{f:Ev β}{R:Heap→ag→α→β→Prop}(h:gL c t f R){k:β→Ev γ}{S S':St}{lab:ag}{s:Shared}{r:bH γ}(e:Ev.bind f k S=some (r,S'))(I:Inv c lab S s)
  {Q:α→Shared→Prop} {E:Value→Shared→Prop} (hE:dl c lab s S' r E)
  (hk: ∀a b S1 lab1 s1,k b S1=some (r,S')→Inv c lab1 S1 s1→Kept lab s.heap lab1 s1.heap→aV lab lab1→R s1.heap lab1 a b→dl c lab1 s1 S' r E→Q a s1):wpAny (model pw c.x.w) c.A t Q E s:=by
 rcases bind_some e with ⟨q,rfl⟩|⟨b,S1,q,q'⟩
 ·exact h S lab s _ S' q I Q E (fun _ _ _ _ z=>nomatch z) fun e lab' s' _=>hE e lab' s' rfl
 ·exact h S lab s _ S1 q I Q E (fun a b' lab' s' z I' k' lm r'=>by cases z;exact hk a b S1 lab' s' q' I' k' lm r' (hE.step k')) fun _ _ _ z=>nomatch z
noncomputable def ei(c:Fc)(h:Heap)(lab:ag)(v:Value)(d:D):Prop:=aD h (Rs c.G lab) v d
noncomputable def dc(c:Fc)(h:Heap)(lab:ag)(v:Value):V→Prop
 | .d d=>aD h (Rs c.G lab) v d
 | .ptr=>uD lab v
noncomputable def p0(h:Heap)(lab:ag)(a b:Bool):Prop:=a=b
theorem Inv.fresh{c:Fc}{lab:ag}{S:St}{s:Shared}(I:Inv c lab S s):jp (Rs c.G lab) s:=fun a h=>I.core.new h
noncomputable def DJ(K:Frag):Bool:=K.all fun p=>p.2.cls != .none
theorem z0(P:Params):DJ (KF P)=true:=by
 unfold DJ KF
 kernel_rfl
theorem hH{x:Cx}(K:xc x.w x.base){h:Heap}(O:OldK x.base h):(KF x.w.params).In h:=fun a o e=>by
 have h1:=kf_in K a o e;refine O.get_of_cls h1 ?_;have h2:=List.all_eq_true.mp (z0 x.w.params) (a,o) (mem_of_lookup _ a o e)
 simpa using h2
theorem sP{x:Cx}(K:xc x.w x.base){a:Addr}{o:Obj}(e:(KF x.w.params).lookup a=some o):a<x.base.objs.size:=Heap.lt_size (kf_in K a o e)
noncomputable def vI:Value→Option Int
 | .int i _=>some i
 |_=>none
noncomputable def vS:Value→Option Str
 | .str x _=>some x
 |_=>none
noncomputable def vB:Value→Option (List UInt8)
 | .bytes b _=>some b.toList
 |_=>none
theorem Hs{v:Value}{i:Int}(h:vI v=some i): ∃t,v= .int i t:=by cases v<;>first|exact cg h|exact Option.some.inj h▸⟨_,rfl⟩
theorem Dk{v:Value}{i:Str}(h:vS v=some i): ∃t,v= .str i t:=by cases v<;>first|exact cg h|exact Option.some.inj h▸⟨_,rfl⟩
theorem Ht{v:Value}{i:List UInt8}(h:vB v=some i): ∃b t,v= .bytes b t∧i=b.toList:=by cases v<;>first|exact cg h|exact Option.some.inj h▸⟨_,_,rfl,rfl⟩
noncomputable def Dr:Data→Option (Array Value)
 | .seq vs _=>some vs
 |_=>none
theorem zf{d:Data}{vs:Array Value}(h:Dr d=some vs): ∃n,d= .seq vs n:=by cases d<;>first|exact cg h|exact Option.some.inj h▸⟨_,rfl⟩
noncomputable def Ep(v:Value):D→Bool
 | .none=>v== .none
 | .bool b=>v== .bool b
 | .int i=>vI v==some i
 | .str x=>vS v==some x
 | .bytes b=>vB v==some b
 | .val w=>v==w
 |_=>false
noncomputable def all2(p:Value→D→Bool):List Value→List D→Bool
 |[],ds=>ds.isEmpty
 |v::vs,ds=>(match ds with
  |[]=>false
  |d::ds=>p v d&&all2 p vs ds)
noncomputable def Dp(K:Frag)(v:Value):Option (Obj×Array Value):=(xh v).bind fun a=>(K.lookup a).bind fun o=>(Dr o.data).bind fun vs=>if (o.cls== .type "tuple"&& (o.dict.isNone&&o.slots.isEmpty))=true then some (o,vs) else none
noncomputable def nJ(K:Frag):Nat→Value→D→Bool
 |0=>Ep
 |n+1=>fun v d=>Ep v d|| ((js d).bind fun ds=>(Dp K v).bind fun q=>if all2 (nJ K n) q.2.toList ds then some () else none).isSome
section
variable{K:Frag}{h:Heap}{M:Addr→Prop}
theorem mJ{v:Value}{d:D}(e:Ep v d=true):aD h M v d:=by
 cases d with
 |none=>exact beq_iff_eq.mp e▸ .none
 |bool b=>exact beq_iff_eq.mp e▸ .bool _
 |int i=>obtain ⟨t,rfl⟩:=Hs (beq_iff_eq.mp e);exact .int _ _
 |str i=>obtain ⟨t,rfl⟩:=Dk (beq_iff_eq.mp e);exact .str _ _
 |bytes i=>obtain ⟨b,t,rfl,rfl⟩:=Ht (beq_iff_eq.mp e);exact .bytes _ _
 |val w=>exact .val _ |> fun x=>(beq_iff_eq.mp e:v=w)▸x
 |_=>exact nomatch e
theorem mY{p:Value→D→Bool}(hp: ∀v d,p v d=true→aD h M v d): ∀vs ds,all2 p vs ds=true→an h M vs ds:=by
 intro vs
 induction vs with
 |nil=>intro ds e;obtain rfl:=List.isEmpty_iff.mp e;exact .nil
 |cons v vs ih=>
  intro ds e
  cases ds with
  |nil=>exact nomatch e
  |cons d ds=>exact gN e fun a b=>.cons _ _ _ _ (hp _ _ a) (ih _ b)
theorem EQ(X:K.In h){v:Value}{q:Obj×Array Value}(e:Dp K v=some q): ∃a n,v= .ref a∧K.lookup a=some q.1∧At h a (.type "tuple") none (.seq q.2 n):=by
 refine ae e fun a e1 e=>ae e fun o e2 e=>ae e fun vs e3 e=>aH e fun e4 e=> ?_;obtain rfl:=Option.some.inj e;obtain ⟨n,e3⟩:=zf e3;obtain ⟨e4,e5⟩:=Bool.and_eq_true_iff.mp e4;obtain ⟨e5,e6⟩:=Bool.and_eq_true_iff.mp e5;obtain ⟨c,d,x,sl⟩:=o;obtain rfl:c=_:=beq_iff_eq.mp e4;obtain rfl:d=none:=Option.isNone_iff_eq_none.mp e5;obtain rfl:x=_:=e3;exact ⟨a,n,kT e1,e2,⟨sl,X _ _ e2,fun _=>Array.isEmpty_iff.mp e6⟩⟩
theorem iy(X:K.In h)(hM: ∀a o,K.lookup a=some o→¬M a){n:Nat}: ∀{v d},nJ K n v d=true→aD h M v d:=by
 induction n with
 |zero=>exact mJ
 |succ n ih=>
  intro v d e;refine ((Bool.or_eq_true _ _).mp e).elim mJ fun e=> ?_;obtain ⟨_,e⟩:=Option.isSome_iff_exists.mp e;refine ae e fun ds e1 e=>ae e fun q e2 e=>aH e fun e3 _=> ?_;obtain ⟨a,m,rfl,h1,h2⟩:=EQ X e2;exact jH e1▸ .tup a _ ds m h2 (hM _ _ h1) (mY (fun _ _=>ih) _ _ e3)
end
noncomputable def yo(K:Frag)(x:Str)(d:D):Bool:=match nsIn K 3 x with
 |some (some v)=>nJ K 5 v d
 |some none=>(x !="__name__")&& (match bootBuiltins x with|some v=>nJ K 5 v d|none=>false)
 |none=>false
theorem zQ(P:Params):bV.all (fun p=>yo (KF P) p.1 p.2)=true:=by
 unfold KF
 kernel_rfl
theorem sN{b h:Heap}(O:OldK b h){a:Addr}{m:Str→Option Value}(n:b.Ns a m)(ha:a≠cStatics):h.Ns a m:=by
 refine bc fun no=> ?_;obtain ⟨o,es,ep,ho,hd,r⟩:=n;refine no ?_;clear no;rcases O.old a o ho with x|⟨t,hc,vs,so,hv,x⟩|⟨e,_⟩
 ·exact ⟨o,es,ep,x,hd,r⟩
 ·rw [hd] at hv;cases hv
 ·exact absurd e ha
theorem uV{b h:Heap}(O:OldK b h)(n:b.NoLimit):h.NoLimit:=by
 obtain ⟨m,⟨o,es,ep,ho,hd,hk,hm⟩,hn⟩:=n;rcases O.old _ o ho with x|⟨t,hc,vs,so,hv,x⟩|⟨_,hc,⟨o',oE,n',pO,h1,h2,h3⟩,z⟩
 ·exact ⟨m,⟨o,es,ep,x,hd,hk,hm⟩,hn⟩
 ·rw [hd] at hv;cases hv
 ·refine ⟨nsFind oE,⟨o',oE,n',pO,h2,h3,fun _=>rfl⟩, ?_⟩
  have e1:staticOf b "sys.recursionlimit"=none:=by
   unfold staticOf;rw [ho];dsimp only;rw [hd];dsimp only;have:=hm "sys.recursionlimit";rw [hn] at this;exact this
  have e2:staticOf h "sys.recursionlimit"=none:=by
   rcases z "sys.recursionlimit" with q|⟨q,_⟩
   ·rw [q,e1]
   ·exact absurd q (by decide+kernel)
  unfold staticOf at e2;rw [pO] at e2;dsimp only at e2;rw [h2] at e2;exact e2
theorem pi{β:Type}{p:Str×β→Bool}{l:List (Str×β)}{x:Str}{b:β}(h:l.all p=true)(e:l.lookup x=some b):p (x,b)=true:=List.all_eq_true.mp h _ (mem_of_lookup _ _ _ e)
section
variable{c:Fc}{lab:ag}{S:St}{s:Shared}
theorem Inv.kf(I:Inv c lab S s)(O:dq c):(KF c.x.w.params).In s.heap:=hH O.K I.core.old
theorem Inv.apart(I:Inv c lab S s)(O:dq c): ∀a o,(KF c.x.w.params).lookup a=some o→¬Rs c.G lab a:=fun a o e=>I.core.low (sP O.K e)
theorem we(O:dq c)(I:Inv c lab S s){x:Str}{d:D}(e:bV.lookup x=some d){A:Around}{Q:Value→Shared→Prop}{E:Value→Shared→Prop}(h: ∀v,ei c s.heap lab v d→Q v s):
  wpAny (model pw c.x.w) A (loadGlobal c.env x) Q E s:=by
 have g:=pi (zQ c.x.w.params) e;have X:=I.kf O;unfold yo at g;unfold loadGlobal;rw [O.globals,O.builtins]
 cases hv:nsIn (KF c.x.w.params) 3 x with
 |none=>rw [hv] at g;exact nomatch g
 |some o=>
  rw [hv] at g
  cases o with
  |some v=>
   refine wpAny_bind ((looks_nsIn X hv).here ?_);exact wpAny_pure (h _ (iy X (I.apart O) g))
  |none=>
   obtain ⟨g1,g2⟩:=Bool.and_eq_true_iff.mp g
   cases hb:bootBuiltins x with
   |none=>rw [hb] at g2;exact nomatch g2
   |some v=>
    rw [hb] at g2;refine wpAny_bind ((looks_nsIn X hv).here ?_);obtain ⟨mb,n,hm⟩:=O.bi;refine wpAny_bind (wpAny_nsGet (sN I.core.old n (by decide)) ?_);rw [hm x (bne_iff_ne.mp g1),hb];exact wpAny_pure (h _ (iy X (I.apart O) g2))
structure aT(c:Fc)(ns:ab):Prop where
 loc: ∀x,ns.lookup x=some .local→c.env.kindOf x=some .local
 cell: ∀x,ns.lookup x=some .cell→c.comp=false∧c.env.kindOf x=some .cell
 glob: ∀x,ns.lookup x=some .globalImplicit→c.env.kindOf x=some .globalImplicit
 free: ∀x,ns.lookup x=some .free→c.env.kindOf x=some .cell
 code:c.comp=false→dZ ns=true→c.env.code= .ref 920∧c.env.qual="_law_keys_right.<locals>."
theorem bI(O:dq c)(I:Inv c lab S s){x:Str}{l:Loc}(e:S.ρ.lookup x=some l){A:Around}{Q:Value→Shared→Prop}{E:Value→Shared→Prop}(h: ∀v,bp s.heap c.G lab x v l→Q v s):wpAny (model pw c.x.w) A (loadName c.env x) Q E s:=by
 by_cases hk:c.env.kindOf x=some .local
 ·refine bc fun no=> ?_
  obtain ⟨cl,es,n,h1,h2,h3,h4⟩:=I.frame;obtain ⟨v,h5,h6⟩:=h4 x l e hk;refine no ?_;clear no;exact wpAny_loadName_local O.kind hk (h1.ns h3) h5 (h v h6)
 ·refine bc fun no=> ?_
  obtain ⟨MV,a,v,h2,h3,h4,h5,h6⟩:=I.cells x l e hk;obtain ⟨sl,h5,_⟩:=h5;refine no ?_;clear no;exact wpAny_loadName_cell O.kind MV h2 ⟨_,h5,rfl⟩ (h v h6)
theorem dF(O:dq c)(I:Inv c lab S s){x:Str}{d:D}(hk:c.env.kindOf x=some .globalImplicit)(e:bV.lookup x=some d){A:Around}{Q:Value→Shared→Prop}{E:Value→Shared→Prop}(h: ∀v,ei c s.heap lab v d→Q v s):
  wpAny (model pw c.x.w) A (loadName c.env x) Q E s:=by
 rw [loadName_read O.kind hk];exact we O I e h
end
theorem fb{M:Model}{A:Around}{E:Value→Shared→Prop}{s:Shared}{a:Addr}{cl:Value}{d:Option Addr}{es:Array DictEntry}{n:Nat}{name:Str}{v:Value}{Q:Unit→Shared→Prop}(ha:At s.heap a cl d (.dict es n))(hk:StrKeys es)
  (h: ∀h' oE n',At h' a cl d (.dict oE n')→StrKeys oE→(∀x,nsFind oE x=if x=name then some v else nsFind es x)→oE.size≤es.size+ (if (nsFind es name).isSome then 0 else 1)→Heap.SameBut a s.heap h'→Q () {s with heap:=h',toks:=s.toks+1}):
  wpAny M A (nsSet a name v) Q E s:=by
 have Hc:es.any (·.refKey)=false:=Array.any_eq_false'.mpr fun e he=>by
  obtain ⟨n,t,h⟩:=hk e he;unfold DictEntry.refKey;rw [h];exact Bool.false_ne_true
 have hr:aRefKeyMayBeTheName name es=false:=by rw [aRefKeyMayBeTheName_eq];unfold aRefKeyMayBeTheNameByArray;rw [Hc,Bool.and_false]
 refine bc fun no=> ?_;obtain ⟨sl,ho,hz⟩:=ha;refine no ?_;clear no Hc;have put: ∀hh kk r,(match es.findIdx? (·.key.isStr name) with
   |some i=>⟨cl,d,.dict (es.modify i fun e=>{e with val:=v}) n,sl⟩
   |none=>⟨cl,d,.dict (es.push ⟨hh,kk,v⟩) (n+1),sl⟩:Obj)=r→Obj.putName name hh kk v ⟨cl,d,.dict es n,sl⟩=r:=fun hh kk r e=>by rw [Obj.putName_eq];exact e
 unfold nsSet strHash mkText;refine wpAny_bind (wpAny_bind (wpAny_askSetting (wpAny_pure (wpAny_bind (wpAny_bind (wpAny_fresh (wpAny_pure (wpAny_bind (wpAny_loadPart ho ?_)))))))));dsimp only;rw [hr,if_neg Bool.false_ne_true];refine wpAny_updatePart ho ?_
 cases hi:es.findIdx? (·.key.isStr name) with
 |some i=>
  rw [hi] at put;refine h _ (es.modify i fun e=>{e with val:=v}) n ⟨sl,(Heap.get?_update_self _ ho (by rw [put _ _ _ rfl];rfl)).trans (congrArg some (put _ _ _ rfl)),hz⟩ (hk.modify _ _) (fun x=> ?_) (by rw [Array.size_modify];exact Nat.le_add_right _ _) (Heap.SameBut.update ..);exact findBy_modify (fun n v=>v.isStr n) Value.isStr_inj es name x v i hi
 |none=>
  rw [hi] at put;have hf:nsFind es name=none:=by
   unfold nsFind findBy;rw [Option.map_eq_none_iff,Array.find?_eq_none];exact fun x hx=>Bool.eq_false_iff.mp (Array.findIdx?_eq_none_iff.mp hi x hx)
  rw [hf] at h;refine h _ (es.push ⟨_,_,v⟩) (n+1) ⟨sl,(Heap.get?_update_self _ ho (by rw [put _ _ _ rfl];rfl)).trans (congrArg some (put _ _ _ rfl)),hz⟩ (hk.push _ _ _ _) (fun x=> ?_) (by rw [Array.size_push];exact Nat.le_refl _) (Heap.SameBut.update ..);refine findBy_push (fun n v=>v.isStr n) es name x _ _ v (fun y=> ?_) hi;show (name==y)=decide (y=name);exact decide_eq_decide.mpr ⟨Eq.symm,Eq.symm⟩
section same
variable{h h':Heap}{G:Addr→Prop}{lab:ag}{a₀:Addr}{L₀:cP}(hL:lab a₀=some L₀)(hs:Heap.SameBut a₀ h h')
include hL hs
theorem bL:Kept lab h lab h':=fun a o e q _=>by
 have:a≠a₀:=by rintro rfl;rw [hL] at e;cases e
 exact ⟨⟨o.slots,(hs.2 a this).trans q,fun _=>rfl⟩,e⟩
theorem aR{a:Addr}{c:Value}{d:Option Addr}{x:Data}(q:At h a c d x)(n:lab a≠some L₀):At h' a c d x:=by
 have:a≠a₀:=by rintro rfl;exact n hL
 obtain ⟨sl,q1,q2⟩:=q;exact ⟨sl,(hs.2 a this).trans q1,q2⟩
theorem lZ{L:cP}{v:Value}{l:List D}(x:bZ h G lab L v l)(n:L≠L₀):bZ h' G lab L v l:=by
 obtain ⟨a,vs,m,e,hl,ha,r⟩:=x;exact ⟨a,vs,m,e,hl,aR hL hs ha (by rw [hl];intro q;exact n (Option.some.inj q)),(bL hL hs).reps r⟩
theorem bQ{x:Str}{v:Value}{l:Loc}(r:bp h G lab x v l)(n:cP.loc x≠L₀):bp h' G lab x v l:=by
 cases l with
 |d d=>exact (bL hL hs).rep r
 |own l=>exact lZ hL hs r n
 |ptr=>exact r
theorem kY{x:Str}{v:Value}{l:FV}(r:cQ h G lab x v l)(n:cP.fld x≠L₀):cQ h' G lab x v l:=by
 cases l with
 |d d=>exact (bL hL hs).rep r
 |own l=>exact lZ hL hs r n
theorem kj{w:World}{σ:Option Slot}(r:bf w h G lab σ)(n:L₀.ofSlot=false):bf w h' G lab σ:=by
 cases σ with
 |none=>trivial
 |some σ=>
  cases σ with
  |inst c fs=>
   obtain ⟨a,d,es,m,h1,h2,h3,h4,h5,h6,h7⟩:=r;refine ⟨a,d,es,m,h1,h2,aR hL hs h3 ?_,aR hL hs h4 ?_,h5,h6,fun f y e=>let ⟨v,h8,h9⟩:=h7 f y e;⟨v,h8,kY hL hs h9 ?_⟩⟩
   ·rw [h1];rintro q;cases q;cases n
   ·rw [h2];rintro q;cases q;cases n
   ·rintro rfl;cases n
  |deck cells am=>
   obtain ⟨d,es,m,v,u,h1,h2,h3,h4,h5,h6⟩:=r;refine ⟨d,es,m,v,u,h1,aR hL hs h2 ?_,h3,h4,lZ hL hs h5 ?_,h6⟩
   ·rw [h1];rintro q;cases q;cases n
   ·rintro rfl;cases n
end same
theorem ch.same{x:Cx}{G:Addr→Prop}{lab:ag}{outer:List Env}{s:Shared}{h':Heap}{t:Nat}{a₀:Addr}{L₀:cP}(C:ch x G lab outer s)(hL:lab a₀=some L₀)(hs:Heap.SameBut a₀ s.heap h'){cl:Value}{d:Option Addr}{y:Data}
  (ha:At h' a₀ cl d y) (hc:cl≠ .none) (hy: ∀vs,y≠ .fields vs) (nk: ∀c' d' y',At s.heap a₀ c' d' y'→cl=c') (hk: ∀c' d' y',At s.heap a₀ c' d' y'→c'≠ .type "code"∨∀vs,y'≠ .fields vs):ch x G lab outer {s with heap:=h',toks:=t}:=by
 have hb:x.base.objs.size≤a₀:=(C.res a₀ (.inr (by rw [hL];exact fun e=>nomatch e))).1;refine ⟨C.old.step_same hb hs,C.os,C.gens,fun a e=> ?_,fun env he=> ?_,C.inj,C.disj,C.tab.1, ?_⟩
 rotate_left 2
 ·refine bc fun no=> ?_
  obtain ⟨q,c,d,y,z,n⟩:=C.res a₀ (.inr (by rw [hL];exact fun e=>nomatch e));refine no ?_;clear no;exact C.tab.2.same (fun e=>Nat.lt_irrefl _ (Nat.lt_of_lt_of_le C.tab.1 (e▸hb))) hs z (hk _ _ _ z)
 ·refine bc fun no=> ?_
  obtain ⟨q,c,d,y,z,n⟩:=C.res a e;refine no ?_;clear no;refine ⟨q, ?_⟩
  by_cases hq:a=a₀
  ·subst hq;exact ⟨_,_,_,ha,hc⟩
  ·refine bc fun no=> ?_
   obtain ⟨sl,z1,z2⟩:=z;refine no ?_;clear no;exact ⟨c,d,y,⟨sl,(hs.2 a hq).trans z1,z2⟩,n⟩
 ·refine bc fun no=> ?_
  obtain ⟨q,L,d',y',e,r,z,m⟩:=C.fr env he;refine no ?_;clear no;refine ⟨q, ?_⟩
  by_cases hq:L=a₀
  ·refine bc fun no=> ?_
   subst hq;obtain rfl:=nk _ _ _ z;refine no ?_;clear no;exact ⟨L,_,_,e,r,ha,hy⟩
  ·refine bc fun no=> ?_
   obtain ⟨sl,z1,z2⟩:=z;refine no ?_;clear no;exact ⟨L,d',y',e,r,⟨sl,(hs.2 L hq).trans z1,z2⟩,m⟩
section
variable{c:Fc}{lab:ag}{S:St}{s:Shared}
theorem dY(O:dq c)(I:Inv c lab S s){x:Str}{v:Value}{l:Loc}(hk:c.env.kindOf x=some .local∨(c.comp=false∧c.env.kindOf x=some .cell))(r:bp s.heap c.G lab x v l){A:Around}{Q:Unit→Shared→Prop}{E:Value→Shared→Prop}
  (h: ∀s',Inv c lab {S with ρ:=upd S.ρ x l} s'→Kept lab s.heap lab s'.heap→Q () s'):wpAny (model pw c.x.w) A (storeName c.env x v) Q E s:=by
 have hp:(c.env.scope.kind== .class|| (c.env.scope.kind== .module&&c.env.locals !=c.env.globals))=false:=by rw [O.kind];rfl
 rcases hk with hk|⟨M8,hk⟩
 ·rw [storeName_local hk hp]
  obtain ⟨cl,es,n,h1,h2,h3,h4⟩:=I.frame;refine fb h1 h3 fun h' oE n' g1 g2 g3 _ g4=> ?_;have hL:=I.isFrame;refine h _ ⟨I.core.same hL g4 g1 h2 (fun vs e=>nomatch e) (fun _ _ _ z=>(h1.same z).1) (fun _ _ _ q=>.inr (by rw [← (h1.same q).2.2];intro vs e;cases e)),hL,⟨cl,oE,n',g1,h2,g2,fun y m e q=> ?_⟩,fun y m e q=> ?_,fun hc y e=> ?_,kj hL g4 I.slot rfl⟩ (bL hL g4)
  ·rw [aN] at e
   rw [g3]
   by_cases hy:y=x
   ·subst hy
    rw [if_pos (beq_self_eq_true _)] at e
    cases e
    rw [if_pos rfl];exact ⟨v,rfl,bQ hL g4 r (fun e=>nomatch e)⟩
   ·rw [if_neg (by simpa using hy)] at e
    rw [if_neg hy];obtain ⟨v',h5,h6⟩:=h4 y m e q;exact ⟨v',h5,bQ hL g4 h6 (fun e=>nomatch e)⟩
  ·rw [aN] at e
   by_cases hy:y=x
   ·subst hy;exact absurd hk q
   ·rw [if_neg (by simpa using hy)] at e
    obtain ⟨k1,a,v',k2,k3,k4,k5,k6⟩:=I.cells y m e q;refine ⟨k1,a,v',k2,k3,k4, ?_,bQ hL g4 k6 (fun e=>nomatch e)⟩;refine aR hL g4 k5 fun q=> ?_;have:a=c.env.locals:=I.core.inj _ _ _ q hL;subst this;have:=k5.same h1;simp at this
  ·obtain ⟨a,v',k1,k2,k3⟩:=I.bare hc y e
   exact ⟨a,v',k1,k2,aR hL g4 k3 (by rw [k2];exact fun q=>nomatch (Option.some.inj q))⟩
 ·obtain ⟨a,v₀,k1,k2,k3⟩:=I.bare M8 x hk
  obtain ⟨sl,k3,Mz⟩:=k3;have e0:storeName c.env x v=cellOf c.env x>>=fun a=>cellSet a (some v):=by
   rw [storeName,hk];show (if (c.env.scope.kind== .class&&_)=true then _ else _)=_;rw [O.kind];rfl
  rw [e0];refine wpAny_bind (wpAny_cellOf k1 ?_);unfold cellSet;refine wpAny_bind (wpAny_load k3 ?_);refine wpAny_update k3 ?_;have g4:Heap.SameBut a s.heap (s.heap.update a fun o=>{o with data:=.cell (some v)}):=Heap.SameBut.update ..;have g1:At (s.heap.update a fun o=>{o with data:=.cell (some v)}) a (.type "cell") none (.cell (some v)):=⟨sl,Heap.get?_update_self _ k3 rfl,Mz⟩;refine h _ ⟨I.core.same k2 g4 g1 (fun e=>nomatch e) (fun vs e=>nomatch e) (fun _ _ _ z=>(At.same (h:=s.heap) ⟨sl,k3,Mz⟩ z).1) (fun _ _ _ q=>.inr (by rw [← (At.same (h:=s.heap) ⟨sl,k3,Mz⟩ q).2.2];intro vs e;cases e)),I.isFrame, ?_,fun y m e q=> ?_,fun hc y e=> ?_,kj k2 g4 I.slot rfl⟩ (bL k2 g4)
  ·obtain ⟨cl,es,n,h1,h2,h3,h4⟩:=I.frame
   refine ⟨cl,es,n,aR k2 g4 h1 (by rw [I.isFrame];exact fun q=>nomatch (Option.some.inj q)),h2,h3,fun y m e q=> ?_⟩;rw [aN] at e
   by_cases hy:y=x
   ·subst hy;rw [hk] at q;cases q
   ·rw [if_neg (by simpa using hy)] at e
    obtain ⟨v',h5,h6⟩:=h4 y m e q;exact ⟨v',h5,bQ k2 g4 h6 (fun e=>nomatch e)⟩
  ·rw [aN] at e
   by_cases hy:y=x
   ·subst hy
    rw [if_pos (beq_self_eq_true _)] at e
    cases e
    exact ⟨hk,a,v,k1,(fun q=>by rw [M8] at q;cases q),fun _=>k2,g1,bQ k2 g4 r (fun e=>nomatch e)⟩
   ·rw [if_neg (by simpa using hy)] at e
    obtain ⟨j1,a',v',j2,j3,j4,j5,j6⟩:=I.cells y m e q;refine ⟨j1,a',v',j2,j3,j4, ?_,bQ k2 g4 j6 (fun e=>nomatch e)⟩;refine aR k2 g4 j5 ?_;rw [j4 M8];exact fun q=>hy (by injection q with q;injection q)
  ·by_cases hy:y=x
   ·subst hy;exact ⟨a,some v,k1,k2,g1⟩
   ·obtain ⟨a',v',j1,j2,j3⟩:=I.bare hc y e
    refine ⟨a',v',j1,j2,aR k2 g4 j3 ?_⟩;rw [j2];exact fun q=>hy (by injection q with q;injection q)
end
noncomputable def unl(L:cP)(lab:ag):ag:=fun a=>if lab a=some L then none else lab a
theorem aK{L L':cP}{lab:ag}{a:Addr}:unl L lab a=some L'↔lab a=some L'∧L'≠L:=by
 unfold unl
 constructor
 ·intro h
  split at h
  ·cases h
  ·rename_i n;exact ⟨h,fun e=>n (e▸h)⟩
 ·rintro ⟨h,n⟩
  rw [if_neg (by rw [h];exact fun e=>n (Option.some.inj e)),h]
theorem lU{L:cP}{lab:ag}{a:Addr}(h:lab a=none):unl L lab a=none:=by unfold unl;rw [h];simp
theorem sB{G:Addr→Prop}{L:cP}{lab:ag}{a:Addr}(h:Rs G (unl L lab) a):Rs G lab a:=h.elim .inl fun n=>.inr fun e=>n (lU e)
theorem o8{G:Addr→Prop}{L:cP}{lab:ag}{h:Heap}{v:Value}{d:D}(r:aD h (Rs G lab) v d):aD h (Rs G (unl L lab)) v d:=r.mono fun _ _ _ _ n q _=>⟨q,fun z=>n (sB z)⟩
theorem lT{G:Addr→Prop}{L:cP}{lab:ag}{h:Heap}{v:List Value}{d:List D}(r:an h (Rs G lab) v d):an h (Rs G (unl L lab)) v d:=r.mono fun _ _ _ _ n q _=>⟨q,fun z=>n (sB z)⟩
theorem kU{G:Addr→Prop}{L L':cP}{lab:ag}{h:Heap}{v:Value}{l:List D}(r:bZ h G lab L' v l)(n:L'≠L):bZ h G (unl L lab) L' v l:=by
 obtain ⟨a,vs,m,e,hl,ha,r⟩:=r;exact ⟨a,vs,m,e,aK.mpr ⟨hl,n⟩,ha,lT r⟩
theorem iB{G:Addr→Prop}{L:cP}{lab:ag}{h:Heap}{x:Str}{v:Value}{l:Loc}(r:bp h G lab x v l)(n:cP.loc x≠L)(m:L.ofSlot=false∨∃f,L= .fld f):bp h G (unl L lab) x v l:=by
 cases l with
 |d d=>exact o8 r
 |own l=>exact kU r n
 |ptr=>
  obtain ⟨a,e,hl⟩:=r;refine ⟨a,e,aK.mpr ⟨hl, ?_⟩⟩
  rintro rfl
  rcases m with m|⟨f,m⟩<;>cases m
theorem xO{G:Addr→Prop}{L:cP}{lab:ag}{h:Heap}{x:Str}{v:Value}{l:FV}(r:cQ h G lab x v l)(n:cP.fld x≠L):cQ h G (unl L lab) x v l:=by
 cases l with
 |d d=>exact o8 r
 |own l=>exact kU r n
theorem yV{w:World}{G:Addr→Prop}{L:cP}{lab:ag}{h:Heap}{σ:Option Slot}(r:bf w h G lab σ)(n:L.ofSlot=false):bf w h G (unl L lab) σ:=by
 have nn: ∀L',L'.ofSlot=true→L'≠L:=fun L' e q=>by rw [q,n] at e;cases e
 cases σ with
 |none=>trivial
 |some σ=>
  cases σ with
  |inst c fs=>
   obtain ⟨a,d,es,m,h1,h2,h3,h4,h5,h6,h7⟩:=r;exact ⟨a,d,es,m,aK.mpr ⟨h1,nn _ rfl⟩,aK.mpr ⟨h2,nn _ rfl⟩,h3,h4,h5,h6,fun f y e=>let ⟨v,h8,h9⟩:=h7 f y e;⟨v,h8,xO h9 (nn _ rfl)⟩⟩
  |deck cells am=>
   obtain ⟨d,es,m,v,u,h1,h2,h3,h4,h5,h6⟩:=r;exact ⟨d,es,m,v,u,aK.mpr ⟨h1,nn _ rfl⟩,h2,h3,h4,kU h5 (nn _ rfl),h6⟩
theorem jB{L:cP}{lab:ag}{h:Heap}:Kept lab h (unl L lab) h:=fun a o e q _=>⟨⟨o.slots,q,fun _=>rfl⟩,lU e⟩
theorem qm{L:cP}{lab:ag}(n:L≠ .sobj:=by intro e;cases e):aV lab (unl L lab):=⟨fun a x e=>(aK.mp e).1,fun a e=>aK.mpr ⟨e,Ne.symm n⟩⟩
theorem ch.unl{x:Cx}{G:Addr→Prop}{lab:ag}{outer:List Env}{s:Shared}{L:cP}(C:ch x G lab outer s)(n:L≠ .frame):ch x G (unl L lab) outer s:=
 ⟨C.old,C.os,C.gens,fun a e=>C.res a (sB e),fun env he=>let ⟨q,l,d,y,e,r,z⟩:=C.fr env he;⟨q,l,d,y,e,r.imp id fun r=>aK.mpr ⟨r,Ne.symm n⟩,z⟩,
  fun a b l e e'=>C.inj a b l (aK.mp e).1 (aK.mp e').1,fun a e=>lU (C.disj a e),C.tab⟩
section
variable{c:Fc}{lab:ag}{S:St}{s:Shared}
theorem Inv.rho(I:Inv c lab S s){ρ:List (Str×Loc)}(h: ∀y l,ρ.lookup y=some l→S.ρ.lookup y=some l):Inv c lab {S with ρ:=ρ} s:=by
 refine ⟨I.core,I.isFrame, ?_,fun x l e=>I.cells x l (h x l e),I.bare,I.slot⟩;obtain ⟨cl,es,n,h1,h2,h3,h4⟩:=I.frame;exact ⟨cl,es,n,h1,h2,h3,fun x l e=>h4 x l (h x l e)⟩
theorem Inv.unlLoc(I:Inv c lab S s){x:Str}{ρ:List (Str×Loc)}(h: ∀y l,ρ.lookup y=some l→y≠x∧S.ρ.lookup y=some l):Inv c (Mine.unl (.loc x) lab) {S with ρ:=ρ} s:=by
 refine ⟨I.core.unl (fun e=>nomatch e),aK.mpr ⟨I.isFrame,fun e=>nomatch e⟩, ?_,fun y l e q=> ?_,fun hc y e=> ?_,yV I.slot rfl⟩
 ·refine bc fun no=> ?_
  obtain ⟨cl,es,n,h1,h2,h3,h4⟩:=I.frame;refine no ?_;clear no;refine ⟨cl,es,n,h1,h2,h3,fun y l e q=> ?_⟩;refine bc fun no=> ?_;obtain ⟨n',e'⟩:=h y l e;obtain ⟨v,h5,h6⟩:=h4 y l e' q;refine no ?_;clear no;exact ⟨v,h5,iB h6 (fun e=>n' (by injection e)) (.inl rfl)⟩
 ·refine bc fun no=> ?_
  obtain ⟨n',e'⟩:=h y l e;obtain ⟨k1,a,v,k2,k3,k4,k5,k6⟩:=I.cells y l e' q;refine no ?_;clear no;exact ⟨k1,a,v,k2,k3,fun hc=>aK.mpr ⟨k4 hc,fun e=>nomatch e⟩,k5,iB k6 (fun e=>n' (by injection e)) (.inl rfl)⟩
 ·refine bc fun no=> ?_
  obtain ⟨a,v,k1,k2,k3⟩:=I.bare hc y e;refine no ?_;clear no;exact ⟨a,v,k1,aK.mpr ⟨k2,fun e=>nomatch e⟩,k3⟩
end
theorem iU{β:Type}(l:List (Str×β))(x y:Str)(b:β)(e:(l.filter (·.1 !=x)).lookup y=some b):y≠x∧l.lookup y=some b:=by
 induction l with
 |nil=>exact cg e
 |cons p r ih=>
  obtain ⟨z,c⟩:=p;rw [List.filter_cons] at e
  by_cases hz:z=x
  ·subst hz
   rw [if_neg (by simp)] at e;obtain ⟨n,e'⟩:=ih e;refine ⟨n, ?_⟩;rw [List.lookup_cons,beq_eq_false_iff_ne.mpr n];exact e'
  ·rw [if_pos (by simpa using hz)] at e
   rw [List.lookup_cons] at e ⊢
   by_cases hy:y=z
   ·subst hy
    rw [beq_self_eq_true] at e ⊢;exact ⟨hz,e⟩
   ·rw [beq_eq_false_iff_ne.mpr hy] at e ⊢
    exact ih e
theorem iA{β:Type}(l:List (Str×β))(x y:Str)(b:β)(hy:y≠x)(e:l.lookup y=some b):(l.filter (·.1 !=x)).lookup y=some b:=by
 induction l with
 |nil=>exact cg e
 |cons p r ih=>
  obtain ⟨z,c⟩:=p;rw [List.filter_cons];rw [List.lookup_cons] at e
  by_cases hz:z=x
  ·subst hz
   rw [beq_eq_false_iff_ne.mpr hy] at e;rw [if_neg (by simp)];exact ih e
  ·rw [if_pos (by simpa using hz),List.lookup_cons]
   by_cases hyz:y=z
   ·subst hyz;rw [beq_self_eq_true] at e ⊢;exact e
   ·rw [beq_eq_false_iff_ne.mpr hyz] at e ⊢;exact ih e
section
variable{c:Fc}{lab:ag}{S:St}{s:Shared}
theorem Inv.addLoc{ρ₁ ρ':List (Str×Loc)}{σ:Option Slot}(I:Inv c lab ⟨ρ₁,σ⟩ s){x:Str}{v:Value}{l:Loc}(hk:c.env.kindOf x=some .local){cl:Value}{d:Option Addr}{es:Array DictEntry}{n:Nat}(ha:At s.heap c.env.locals cl d (.dict es n))(hv:nsFind es x=some v)
  (r:bp s.heap c.G lab x v l) (h: ∀y m,ρ'.lookup y=some m→(y=x∧m=l)∨ρ₁.lookup y=some m):Inv c lab ⟨ρ',σ⟩ s:=by
 refine ⟨I.core,I.isFrame, ?_,fun y m e q=> ?_,I.bare,I.slot⟩
 ·obtain ⟨Mh,oE,n',h1,h2,h3,h4⟩:=I.frame
  refine ⟨Mh,oE,n',h1,h2,h3,fun y m e q=> ?_⟩;rcases h y m e with ⟨rfl,rfl⟩|e'
  ·obtain ⟨_,_,q3⟩:=h1.same ha
   cases q3
   exact ⟨v,hv,r⟩
  ·exact h4 y m e' q
 ·rcases h y m e with ⟨rfl,rfl⟩|e'
  ·exact absurd hk q
  ·exact I.cells y m e' q
theorem tW(O:dq c)(I:Inv c lab S s){x:Str}{l:List D}(hk:c.env.kindOf x=some .local)(e:S.ρ.lookup x=some (.own l)){A:Around}{Q:Value→Shared→Prop}{E:Value→Shared→Prop}
  (h: ∀v,Inv c (unl (.loc x) lab) {S with ρ:=upd S.ρ x (.d (.lst l))} s→ei c s.heap (unl (.loc x) lab) v (.lst l)→Q v s):wpAny (model pw c.x.w) A (loadName c.env x) Q E s:=by
 refine bc fun no=> ?_;obtain ⟨cl,es,n,h1,h2,h3,h4⟩:=I.frame;obtain ⟨v,h5,h6⟩:=h4 x _ e hk;refine no ?_;clear no;refine wpAny_loadName_local O.kind hk (h1.ns h3) h5 ?_;refine bc fun no=> ?_;obtain ⟨a,vs,m,rfl,hl,ha,r⟩:=h6;refine no ?_;clear no;have r':ei c s.heap (unl (.loc x) lab) (.ref a) (.lst l):=by
  refine .lst a vs l m ha ?_ (lT r)
  rintro (z|z)
  ·rw [I.core.disj a z] at hl;cases hl
  ·unfold unl at z;rw [if_pos hl] at z;exact z rfl
 refine h _ ?_ r';refine (I.unlLoc (ρ:=S.ρ.filter (·.1 !=x)) (fun y m e=>iU _ _ _ _ e)).addLoc (l:=.d (.lst l)) hk h1 h5 r' fun y m e=> ?_;rw [aN] at e
 by_cases hy:y=x
 ·subst hy;rw [if_pos (beq_self_eq_true _)] at e;cases e;exact .inl ⟨rfl,rfl⟩
 ·rw [if_neg (by simpa using hy)] at e
  exact .inr (iA _ _ _ _ hy e)
noncomputable def cy(a:Addr)(L:cP)(lab:ag):ag:=fun b=>if b=a then some L else lab b
theorem bA{a b:Addr}{L L':cP}{lab:ag}(h:lab b=some L')(n:lab a=none):cy a L lab b=some L':=by
 unfold cy;rw [if_neg (by rintro rfl;rw [n] at h;cases h)];exact h
theorem mD{G:Addr→Prop}{a:Addr}{L:cP}{lab:ag}{h:Heap}(ha:h.get? a=none){v:Value}{d:D}(r:aD h (Rs G lab) v d):aD h (Rs G (cy a L lab)) v d:=
 r.mono fun b c d x n q _=>⟨q,fun z=>by
  rcases z with z|z
  ·exact n (.inl z)
  ·unfold cy at z
   split at z
   ·rename_i e;subst e;obtain ⟨sl,q,_⟩:=q;rw [ha] at q;cases q
   ·exact n (.inr z)⟩
theorem wW{G:Addr→Prop}{a:Addr}{L:cP}{lab:ag}{h:Heap}(ha:h.get? a=none){v:List Value}{d:List D}(r:an h (Rs G lab) v d):an h (Rs G (cy a L lab)) v d:=
 r.mono fun b c d x n q _=>⟨q,fun z=>by
  rcases z with z|z
  ·exact n (.inl z)
  ·unfold cy at z
   split at z
   ·rename_i e;subst e;obtain ⟨sl,q,_⟩:=q;rw [ha] at q;cases q
   ·exact n (.inr z)⟩
theorem mE{G:Addr→Prop}{a:Addr}{L L':cP}{lab:ag}{h:Heap}(ha:h.get? a=none)(hn:lab a=none){v:Value}{l:List D}(r:bZ h G lab L' v l):bZ h G (cy a L lab) L' v l:=by
 obtain ⟨b,vs,m,e,hl,hb,r⟩:=r;exact ⟨b,vs,m,e,bA hl hn,hb,wW ha r⟩
theorem rh{G:Addr→Prop}{a:Addr}{L:cP}{lab:ag}{h:Heap}(ha:h.get? a=none)(hn:lab a=none){x:Str}{v:Value}{l:Loc}(r:bp h G lab x v l):bp h G (cy a L lab) x v l:=by
 cases l with
 |d d=>exact mD ha r
 |own l=>exact mE ha hn r
 |ptr=>obtain ⟨b,e,hl⟩:=r;exact ⟨b,e,bA hl hn⟩
theorem C5{G:Addr→Prop}{a:Addr}{L:cP}{lab:ag}{h:Heap}(ha:h.get? a=none)(hn:lab a=none){x:Str}{v:Value}{l:FV}(r:cQ h G lab x v l):cQ h G (cy a L lab) x v l:=by
 cases l with
 |d d=>exact mD ha r
 |own l=>exact mE ha hn r
theorem wV{w:World}{G:Addr→Prop}{a:Addr}{L:cP}{lab:ag}{h:Heap}(ha:h.get? a=none)(hn:lab a=none){σ:Option Slot}(r:bf w h G lab σ):bf w h G (cy a L lab) σ:=by
 cases σ with
 |none=>trivial
 |some σ=>
  cases σ with
  |inst c fs=>
   obtain ⟨b,d,es,m,h1,h2,h3,h4,h5,h6,h7⟩:=r;exact ⟨b,d,es,m,bA h1 hn,bA h2 hn,h3,h4,h5,h6,fun f y e=>let ⟨v,h8,h9⟩:=h7 f y e;⟨v,h8,C5 ha hn h9⟩⟩
  |deck cells am=>
   obtain ⟨d,es,m,v,u,h1,h2,h3,h4,h5,h6⟩:=r;exact ⟨d,es,m,v,u,bA h1 hn,h2,h3,h4,mE ha hn h5,h6⟩
theorem Inv.newLab(I:Inv c lab S s){L:cP}{o:Obj}(hL: ∀a,lab a≠some L)(hc:o.cls≠ .none)(hs:o.slots= #[])(hf:o.isFreed=false):Inv c (cy s.heap.objs.size L lab) S {s with heap:=s.heap.push o}∧Kept lab s.heap (cy s.heap.objs.size L lab) (s.heap.push o):=by
 have n0:s.heap.get? s.heap.objs.size=none:=Heap.get?_none_of_le (Nat.le_refl _);have hn:lab s.heap.objs.size=none:=by
  cases q:lab s.heap.objs.size with
  |none=>rfl
  |some L'=>exact absurd (.inr (by rw [q];exact fun e=>nomatch e)) (I.core.new (Nat.le_refl _))
 have hG: ¬c.G s.heap.objs.size:=fun g=>I.core.new (Nat.le_refl _) (.inl g);have kp:Keeps s {s with heap:=s.heap.push o}:=ce o;have k:=al kp;have kS:At (s.heap.push o) s.heap.objs.size o.cls o.dict o.data:=by
  refine ⟨o.slots, ?_,fun _=>hs⟩;rw [Heap.get?_push_size _ hf]
 have I':=I.keeps kp;have Tp: ∀{v d},aD s.heap (Rs c.G lab) v d→aD (s.heap.push o) (Rs c.G (cy s.heap.objs.size L lab)) v d:=fun r=>(mD n0 r).keeps k;refine ⟨⟨⟨I'.core.old,I'.core.os,I'.core.gens,fun a e=> ?_,fun env he=> ?_,fun a b l e e'=> ?_,fun a e=> ?_,I'.core.tab⟩,bA I.isFrame hn, ?_,fun x l e q=> ?_,fun hc x e=> ?_,(wV n0 hn I.slot).keeps k⟩,
  fun a o' e q hc=>⟨⟨o'.slots,k _ _ q,fun _=>rfl⟩,by unfold cy;rw [if_neg (by rintro rfl;rw [n0] at q;cases q)];exact e⟩⟩
 ·by_cases ha:a=s.heap.objs.size
  ·subst ha
   refine ⟨?_,_,_,_,kS,hc⟩;obtain ⟨cl,es,n,h1,_⟩:=I.frame;exact Nat.le_trans (I.core.res _ (.inr (by rw [I.isFrame];exact fun e=>nomatch e))).1 (Nat.le_of_lt h1.lt)
  ·exact I'.core.res a (e.imp id fun z=>by unfold cy at z;rwa [if_neg ha] at z)
 ·obtain ⟨q,l,d,y,e,r,z⟩:=I'.core.fr env he
  exact ⟨q,l,d,y,e,r.imp id fun r=>bA r hn,z⟩
 ·unfold cy at e e'
  split at e<;>split at e'<;>rename_i p1 p2
  ·rw [p1,p2]
  ·cases e;exact absurd e' (hL b)
  ·cases e';exact absurd e (hL a)
  ·exact I.core.inj a b l e e'
 ·unfold cy
  rw [if_neg (by rintro rfl;exact hG e)];exact I.core.disj a e
 ·obtain ⟨cl,es,n,h1,h2,h3,h4⟩:=I.frame
  exact ⟨cl,es,n,h1.keep k,h2,h3,fun x l e q=>let ⟨v,h5,h6⟩:=h4 x l e q;⟨v,h5,(rh n0 hn h6).keeps k⟩⟩
 ·obtain ⟨k1,a,v,k2,k3,k4,k5,k6⟩:=I.cells x l e q
  exact ⟨k1,a,v,k2,k3,fun hc=>bA (k4 hc) hn,k5.keep k,(rh n0 hn k6).keeps k⟩
 ·obtain ⟨a,v,k1,k2,k3⟩:=I.bare hc x e
  exact ⟨a,v,k1,bA k2 hn,k3.keep k⟩
end
noncomputable def ck{α β:Type}(c:Fc)(lab:ag)(s:Shared)(S':St)(r:bH β)(R:Heap→ag→α→β→Prop)(Q:α→Shared→Prop):Prop:=
 ∀a b lab' s',r= .ok b→Inv c lab' S' s'→Kept lab s.heap lab' s'.heap→aV lab lab'→R s'.heap lab' a b→Q a s'
theorem ck.step{α β:Type}{c:Fc}{lab lab1:ag}{s s1:Shared}{S':St}{r:bH β}{R:Heap→ag→α→β→Prop}{Q:α→Shared→Prop}(h:ck c lab s S' r R Q)(k:Kept lab s.heap lab1 s1.heap)(m:aV lab lab1):ck c lab1 s1 S' r R Q:=
 fun a b lab' s' e I k' m' r'=>h a b lab' s' e I (k.trans k') (m.trans m') r'
theorem Lz{β:Type}{o:Option β}{S S':St}{r:bH β}(e:Ev.opt o S=some (r,S')): ∃b,o=some b∧r= .ok b∧S'=S:=match o,e with
 |some b,e=>fX e fun e1 e2=>⟨b,rfl,e1,e2⟩
theorem eK{β:Type}{b:β}{S S':St}{r:bH β}(e:Ev.pure b S=some (r,S')):r= .ok b∧S'=S:=fX e fun e1 e2=>⟨e1,e2⟩
theorem Go{β:Type}{S S':St}{r:bH β}(e:(Ev.fail:Ev β) S=some (r,S')):False:=cg e
theorem Qk{o:Option D}{v:V}(e:o.map V.d=some v): ∃d,o=some d∧v= .d d:=by
 obtain ⟨d,h,rfl⟩:=Option.map_eq_some_iff.mp e;exact ⟨d,h,rfl⟩
theorem dR{α β:Type}{c:Fc}{lab lab':ag}{s s':Shared}{S1 S':St}{r:bH β}{R:Heap→ag→α→β→Prop}{Q:α→Shared→Prop}{a:α}{b:β}(h:ck c lab s S' r R Q)(e:some (bH.ok b,S1)=some (r,S'))(I:Inv c lab' S1 s')(k:Kept lab s.heap lab' s'.heap)(m:aV lab lab')(q:R s'.heap lab' a b):Q a s':=
 fX e fun e1 e2=>h a b lab' s' e1 (e2▸I) k m q
section
variable{β:Type}{S S':St}{P:Prop}
theorem vt{o:Option β}{r:bH β}(e:Ev.opt o S=some (r,S'))(k: ∀b,o=some b→some (bH.ok b,S)=some (r,S')→P):P:=match o,e,k with
 |some b,e,k=>k b rfl e
theorem sk{o:Option D}{r:bH V}(e:Ev.opt (o.map V.d) S=some (r,S'))(k: ∀d,o=some d→some (bH.ok (V.d d),S)=some (r,S')→P):P:=match o,e,k with
 |some d,e,k=>k d rfl e
end
structure aY(P:Fc→Prop)(r:ba):Prop where
 grow: ∀c G,P c→P {c with G:=G}
 ok: ∀c,P c→dq c
 ev: ∀c ns,P c→aT c ns→∀e,gL c (eval e c.env) (r.ev ns e) (dc c)
 evT: ∀c ns,P c→aT c ns→∀e,gL c (isTrue e c.env (eval e c.env)) (r.evT ns e) p0
theorem bz{e:Expr}{rest:List Expr}{env:Env}(h:aE e=true):starEach (e::rest) env= (false,eval e env)::starEach rest env:=by
 cases e<;>first|rfl|exact nomatch h
section
variable{P:Fc→Prop}{r:ba}(H:aY P r){c:Fc}{ns:ab}(hP:P c)(hN:aT c ns)
include H hP hN
theorem aM(e:Expr):gL c (eval e c.env) (fe r ns e) (ei c):=by
 intro S lab s res S' hf I Q E hQ hE;refine (H.ev c ns hP hN e).step hf I hE fun a v S1 lab1 s1 h1 I1 k1 m1 r1 dm=> ?_
 cases v with
 |d d=>exact dR hQ h1 I1 k1 m1 r1
 |ptr=>exact cg h1
theorem wT(fn:au)(k p)(x:Const):gL c (eval (.Constant x k p) c.env) (oD fn r ns (.Constant x k p)) (dc c):=by
 intro S lab s res S' hf I Q E hQ hE;refine sk hf fun d hd hf=> ?_;have t:=aw (s:=s) (s.toks+1);have q:=fun (v:Value) (r:ei c s.heap lab v d)=>dR (a:=v) hQ hf (I.keeps t) (.of_keeps (al t)) (.refl _) r;have q':=fun (v:Value) (r:ei c s.heap lab v d)=>dR (a:=v) hQ hf I (Kept.refl _ _) (.refl _) r
 cases x with
 |none=>exact wpAny_Constant_none (q' _ (Option.some.inj hd▸aD.none))
 |bool=>exact wpAny_Constant_bool (q' _ (Option.some.inj hd▸(aD.bool _)))
 |int=>exact wpAny_Constant_int (q _ (Option.some.inj hd▸(aD.int _ _)))
 |str=>exact wpAny_Constant_str (q _ (Option.some.inj hd▸(aD.str _ _)))
 |bytes b=>exact Constant_bytes (q _ (Option.some.inj hd▸(aD.bytes b.toArray s.toks)))
 |_=>exact cg hd
theorem Ag(fn:au)(x:Str)(p:Pos):gL c (eval (.Name x p) c.env) (oD fn r ns (.Name x p)) (dc c):=by
 intro S lab s res S' hf I Q E hQ hE;have O:=H.ok c hP;refine iP hf (fun _ hf=>cg hf) fun hd hf=>wpAny_Name ?_ (Bool.eq_false_iff.mpr hd);refine du hf (fun hl hf=>aH hf fun hk hf=>ae hf fun d hg hf=>dF O I (hN.glob x (beq_iff_eq.mp hk)) hg fun v rv=>dR hQ hf I (Kept.refl _ _) (.refl _) rv) fun l hl hf=> ?_
 cases l with
 |own l=>exact aH hf fun hk hf=>tW O I (hN.loc x (beq_iff_eq.mp hk)) hl fun v I' rv=>dR hQ hf I' jB qm rv
 |_=>exact bI O I hl fun v rv=>dR hQ hf I (Kept.refl _ _) (.refl _) rv
theorem C3(fn:au)(l:Expr)(op:Operator)(e:Expr)(p:Pos):gL c (eval (.BinOp l op e p) c.env) (oD fn r ns (.BinOp l op e p)) (dc c):=by
 intro S lab s res S' hf I Q E hQ hE;refine wpAny_BinOp ((aM H hP hN l).step hf I hE fun a d S1 lab1 s1 h1 I1 k1 m1 r1 dm=>(aM H hP hN e).step h1 I1 dm fun b d2 S2 be s2 h2 I2 k2 m2 r2 np=> ?_);exact sk h2 fun d hd h2=>CS hd (k2.rep r1) r2 I2.fresh fun v s' K R=>dR hQ h2 (I2.keeps K) ((k1.trans k2).trans (.of_keeps (al K))) (m1.trans m2) R
theorem FU(fn:au)(op:UnaryOp)(e:Expr)(p:Pos):gL c (eval (.UnaryOp op e p) c.env) (oD fn r ns (.UnaryOp op e p)) (dc c):=by
 intro S lab s res S' hf I Q E hQ hE;refine wpAny_UnaryOp ((aM H hP hN e).step hf I hE fun a d S1 lab1 s1 h1 I1 k1 m1 r1 dm=> ?_);exact sk h1 fun d hd h1=>EO hd r1 fun v s' K R=>dR hQ h1 (I1.keeps K) (k1.trans (.of_keeps (al K))) m1 R
theorem FW(fn:au)(t a b:Expr)(p:Pos):gL c (eval (.IfExp t a b p) c.env) (oD fn r ns (.IfExp t a b p)) (dc c):=by
 intro S lab s res S' hf I Q E hQ hE;refine wpAny_IfExp ((H.evT c ns hP hN t).step hf I hE fun x d S1 lab1 s1 h1 I1 k1 m1 r1 dm=> ?_)
 cases (show x=d from r1)
 cases x
 ·exact H.ev c ns hP hN b S1 lab1 s1 res S' h1 I1 Q E (ck.step hQ k1 m1) dm
 ·exact H.ev c ns hP hN a S1 lab1 s1 res S' h1 I1 Q E (ck.step hQ k1 m1) dm
theorem ow(pos:Pos)(es:List Expr):gL c (spliced (backTo pos (starEach es c.env))) (ga r ns es) (fun h lab vs ds=>an h (Rs c.G lab) vs ds):=by
 induction es with
 |nil=>exact fun S lab s res S' hf I Q E hQ hE=>Calls.spliced_nil (dR (R:=fun h lab vs ds=>an h (Rs c.G lab) vs ds) hQ hf I (Kept.refl _ _) (.refl _) .nil)
 |cons e rest ih=>
  intro S lab s res S' hf I Q E hQ hE;refine aH hf fun hp hf=> ?_;rw [bz hp];exact Calls.spliced_cons ((aM H hP hN e).step hf I hE fun a d S1 lab1 s1 h1 I1 k1 m1 r1 dm=>ih.step h1 I1 dm fun vs ds S2 be s2 h2 I2 k2 m2 r2 np=>dR (R:=fun h lab vs ds=>an h (Rs c.G lab) vs ds) hQ h2 I2 (k1.trans k2) (m1.trans m2) (.cons _ _ _ _ (k2.rep r1) r2))
end
section
variable{P:Fc→Prop}{r:ba}(H:aY P r){c:Fc}{ns:ab}(hP:P c)(hN:aT c ns)
include H hP hN
theorem qo:c.A.units≤6000:=Nat.le_trans (H.ok c hP).units (by decide)
theorem BP{op:CmpOp}{e:Expr}{S:St}{q:List D×Bool}(h:gZ ns op e S=some q): ∃x p,e= .Name x p∧(x== ("__debug__":Str))=false∧S.ρ.lookup x=some (.own q.1)∧EA op=some q.2:=
 ae h fun AG h1 h=>ae h fun x h2 h=>aH h fun h3 h=>gM h fun l h4 h=>ae h4 fun lo h5 h6=>h▸⟨x.1,x.2,bM h2,Bool.not_eq_true' _ |>.mp (Bool.and_eq_true_iff.mp h3).1,og h6▸h5,h1⟩
theorem Hk{l e:Expr}{op:CmpOp}{S S':St}{lab:ag}{s:Shared}{res:bH Bool}(hf:qg r ns l op e S=some (res,S'))(I:Inv c lab S s){Q:Value→Shared→Prop}{E:Value→Shared→Prop}
  (hQ: ∀b lab' s',res= .ok b→Inv c lab' S' s'→Kept lab s.heap lab' s'.heap→aV lab lab'→Q (.bool b) s') (hE:dl c lab s S' res E):
  wpAny (model pw c.x.w) c.A (eval l c.env) (fun a s₁=>wpAny (model pw c.x.w) c.A (eval e c.env) (fun b s₂=>wpAny (model pw c.x.w) c.A (compareOp op a b) Q E s₂) E s₁) E s:=by
 have hu:=qo H hP hN;refine (aM H hP hN l).step hf I hE fun a d S1 lab1 s1 h1 I1 k1 m1 r1 dm=>du h1 (fun _ h1=>(aM H hP hN e).step h1 I1 dm fun b d2 S2 be s2 h2 I2 k2 m2 r2 np=>vt h2 fun bb hv h2=>fX h2 fun e1 e2=>lc hv (k2.rep r1) r2 hu (hQ _ _ _ e1 (e2▸I2) (k1.trans k2) (m1.trans m2))) fun q Rn h1=>ae h1 fun bb MW h9=> ?_;refine bc fun no=> ?_;obtain ⟨x,p,rfl,hd,hl,MN⟩:=BP H hP hN Rn;refine no ?_;clear no;refine wpAny_Name (bI (H.ok c hP) I1 hl fun v rv=> ?_) hd;refine bc fun no=> ?_;obtain ⟨b,vs,m,rfl,hb,ha,rr⟩:=rv;refine no ?_;clear no;have ra:aD s1.heap (fun z=>Rs c.G lab1 z∧z≠b) a d:=r1.mono fun _ _ _ _ n q _=>⟨q,fun z=>n z.1⟩;have rb:aD s1.heap (fun z=>Rs c.G lab1 z∧z≠b) (.ref b) (.lst q.1):=.lst b vs q.1 m ha (fun z=>z.2 rfl) (rr.mono fun _ _ _ _ n q _=>⟨q,fun z=>n z.1⟩);have hz:=sQ (A:=c.A) (w:=c.x.w) (E:=E) MW ra rb hu (Q:=Q);have hq:=fX h9 fun e1 e2=>hQ _ lab1 s1 e1 (e2▸I1) k1 m1
 cases op with
 |In=>exact hz.1 ((Option.some.inj MN).symm▸hq:Q (.bool (if false=true then !bb else bb)) s1)
 |NotIn=>exact hz.2 ((Option.some.inj MN).symm▸hq:Q (.bool (if true=true then !bb else bb)) s1)
 |_=>exact cg MN
theorem Hj{l e1 e2:Expr}{o1 o2:CmpOp}{S S':St}{lab:ag}{s:Shared}{res:bH Bool}(hf:sW r ns l o1 e1 o2 e2 S=some (res,S'))(I:Inv c lab S s){Q:Value→Shared→Prop}{E:Value→Shared→Prop}{T:Value→Value→Shared→Prop}
  (hQ: ∀b lab' s',res= .ok b→Inv c lab' S' s'→Kept lab s.heap lab' s'.heap→aV lab lab'→Q (.bool b) s') (hE:dl c lab s S' res E)
  (hT: ∀b s',wpAny (model pw c.x.w) c.A (eval e2 c.env) (fun v s₂=>wpAny (model pw c.x.w) c.A (compareOp o2 b v) Q E s₂) E s'→T b (.bool true) s') (hF: ∀b lab' s',res= .ok false→Inv c lab' S' s'→Kept lab s.heap lab' s'.heap→aV lab lab'→T b (.bool false) s'):
  wpAny (model pw c.x.w) c.A (eval l c.env) (fun a s₁=>wpAny (model pw c.x.w) c.A (eval e1 c.env) (fun b s₂=>wpAny (model pw c.x.w) c.A (compareOp o1 a b) (T b) E s₂) E s₁) E s:=by
 have hu:=qo H hP hN;refine (aM H hP hN l).step hf I hE fun a d S1 lab1 s1 h1 I1 k1 m1 r1 dm=>(aM H hP hN e1).step h1 I1 dm fun b d2 S2 be s2 h2 I2 k2 m2 r2 np=> ?_;refine nd h2 (fun q _=>vt q fun _ _ q=>fX q fun e _=>nomatch e) fun cb S3 q h3=>vt q fun SW hv q=>fX q fun e1 e2=> ?_;refine bc fun no=> ?_;obtain rfl:cb=SW:=by injection e1
 subst e2;refine no ?_;clear no;refine lc hv (k2.rep r1) r2 hu ?_
 cases cb
 ·exact fX h3 fun e1 e2=>hF _ _ _ e1 (e2▸I2) (k1.trans k2) (m1.trans m2)
 ·refine hT _ _ ((aM H hP hN e2).step h3 I2 np fun v d3 S4 AY s4 h4 I4 k4 m4 r4 T6=> ?_)
  exact vt h4 fun bb AJ h4=>fX h4 fun e1 e2=>lc AJ (k4.rep r2) r4 hu (hQ _ _ _ e1 (e2▸I4) ((k1.trans k2).trans k4) ((m1.trans m2).trans m4))
theorem yB{l:Expr}{ops:List CmpOp}{es:List Expr}{S S':St}{res:bH Bool}{P:Prop}(h:eL r ns l ops es S=some (res,S'))(k1: ∀op e,ops= [op]→es= [e]→behindInMarks op e=false→qg r ns l op e S=some (res,S')→P)
  (k2: ∀o1 o2 e1 e2,ops= [o1,o2]→es= [e1,e2]→lastMarks [o1,o2] [e1,e2]=false→sW r ns l o1 e1 o2 e2 S=some (res,S')→P):P:=by
 cases ops with
 |nil=>exact cg h
 |cons o1 ops=>cases ops with
  |nil=>exact ae h fun e he h=>iP h (fun _ h=>cg h) fun hb h=>k1 _ _ rfl (dU he) (Bool.eq_false_iff.mpr hb) h
  |cons o2 ops=>
   refine ae h fun q hq h=>iP h (fun _ h=>cg h) fun hb h9=> ?_;obtain ⟨h1,h2⟩:=Bool.or_eq_false_iff.mp (Bool.eq_false_iff.mpr hb);obtain rfl:=List.isEmpty_iff.mp (Bool.not_eq_false' _ |>.mp h1);exact k2 _ _ _ _ rfl (iF hq) h2 h9
theorem CZ(fn:au)(l:Expr)(ops:List CmpOp)(es:List Expr)(p:Pos):gL c (eval (.Compare l ops es p) c.env) (oD fn r ns (.Compare l ops es p)) (dc c):=by
 intro S lab s res S' hf I Q E hQ hE;have key: ∀(AU:bH Bool) (S1:St),eL r ns l ops es S=some (AU,S1)→(∀b lab' s',AU= .ok b→Inv c lab' S1 s'→Kept lab s.heap lab' s'.heap→aV lab lab'→Q (.bool b) s')→dl c lab s S1 AU E→
   wpAny (model pw c.x.w) c.A (eval (.Compare l ops es p) c.env) Q E s:=by
  intro AU S1 h hq he;refine yB H hP hN h (fun op e q1 q2 hb h9=> ?_) fun o1 o2 e1 e2 q1 q2 hb h9=> ?_
  ·subst q1 q2
   exact wpAny_Compare1 (Hk H hP hN h9 I hq he) hb
  ·subst q1 q2
   refine Compare_chain (Hj (T:=fun b v s₃=>wpAny (model pw c.x.w) c.A (truthy v) (fun t s₄=>if t then wpAny (model pw c.x.w) c.A (compareChain p b [_] [_]) Q E s₄ else Q v s₄) E s₃) H hP hN h9 I hq he (fun b s' h=>wpAny_truthy_bool ?_) (fun b lab' s' e I' k m=>wpAny_truthy_bool (hq _ _ _ e I' k m)) |> fun z=>wpAny_mono z (fun a s₁ h₁=>chain_link h₁) fun _ _ x=>x) hb;exact chain_last h
 refine nd hf (fun q e=>key _ _ q (fun _ _ _ e=>nomatch e) (fun e1 lab' s' _=>hE e1 lab' s' e)) fun b S1 q h1=>fX h1 fun e1 e2=>key _ _ q (fun b' lab' s' e I' k m=> ?_) (fun _ _ _ e=>nomatch e);obtain rfl:b=b':=by injection e
 exact hQ _ _ _ _ e1 (e2▸I') k m (.bool _)
theorem An(l:Expr)(ops:List CmpOp)(es:List Expr)(p:Pos):gL c (isTrue (.Compare l ops es p) c.env (eval (.Compare l ops es p) c.env)) (vv r ns (.Compare l ops es p)) p0:=by
 intro S lab s res S' hf I Q E hQ hE;refine yB H hP hN hf (fun op e q1 q2 hb h9=> ?_) fun o1 o2 e1 e2 q1 q2 hb h9=> ?_
 ·subst q1 q2
  exact wpAny_isTrue_Compare1 (Hk H hP hN h9 I (Q:=fun v s₃=>wpAny (model pw c.x.w) c.A (truthy v) Q E s₃) (fun b lab' s' e I' k m=>wpAny_truthy_bool (hQ _ _ _ _ e I' k m rfl)) hE) hb
 ·subst q1 q2
  refine PyProof.Rows.isTrue_chain (wpAny_mono (Hj (Q:=fun v s₃=>wpAny (model pw c.x.w) c.A (truthy v) Q E s₃) (T:=fun b v s₃=>wpAny (model pw c.x.w) c.A (truthy v) (fun t s₄=>if t then wpAny (model pw c.x.w) c.A (testChain p b [_] [_]) Q E s₄ else Q false s₄) E s₃) H hP hN h9 I
   (fun b lab' s' e I' k m=>wpAny_truthy_bool (hQ _ _ _ _ e I' k m rfl)) hE (fun b s' h=>wpAny_truthy_bool ?_) (fun b lab' s' e I' k m=>wpAny_truthy_bool (hQ _ _ _ _ e I' k m rfl))) (fun a s₁ h₁=>test_link h₁) fun _ _ x=>x) hb
  exact test_last h
end
set_option backward.match.sparseCases true
section
variable{P:Fc→Prop}{r:ba}(H:aY P r){c:Fc}{ns:ab}(hP:P c)(hN:aT c ns)
include H hP hN
theorem CD(pos:Pos)(op:BoolOp)(es:List Expr):gL c (boolOp pos op (evalEach es c.env)) (xK r ns op es) (dc c):=by
 induction es with
 |nil=>exact fun S lab s res S' hf _ _ _ _ _=>cg hf
 |cons e rest ih=>
 cases rest with
 |nil=>exact H.ev c ns hP hN e
 |cons e2 rest=>
 intro S lab s res S' hf I Q E hQ hE;show wpAny (model pw c.x.w) c.A (do
   let v ←eval e c.env
   standAt pos
   let t ←holding [v] (truthy v)
   match op,t with
   | .And,false| .Or,true=>pure v
   |_,_=>boolOp pos op (evalEach (e2::rest) c.env)) Q E s
 refine wpAny_bind ((H.ev c ns hP hN e).step hf I hE fun a v S1 lab1 s1 h1 I1 k1 m1 r1 dm=>wpAny_bind (wpAny_standAt (wpAny_bind (wpAny_holding (ae h1 fun b hb h9=> ?_)))));obtain rfl:=nV hb;obtain rfl:a=_:=aD.inv r1;refine wpAny_truthy_bool ?_;have hi:=fun h=>ih S1 lab1 s1 res S' h I1 Q E (ck.step hQ k1 m1) dm;have hp:=fun h=>wpAny_pure (M:=model pw c.x.w) (A:=c.A) (E:=E) (dR (b:=V.d (.bool b)) hQ h I1 k1 m1 (aD.bool _))
 cases op<;>cases b
 ·exact hp h9
 ·exact hi h9
 ·exact hi h9
 ·exact hp h9
theorem Aj(fn:au)(op:BoolOp)(es:List Expr)(p:Pos):gL c (eval (.BoolOp op es p) c.env) (oD fn r ns (.BoolOp op es p)) (dc c):=by
 rw [arm_eval_BoolOp];exact CD H hP hN p op es
theorem mQ: ∀(es:List Expr) (S S':St) (ds:List D),ga r ns es S=some (.ok ds,S')→ds.length=es.length:=by
 intro es
 induction es with
 |nil=>exact fun S S' ds h=>fX h fun e _=>by injection e with e;rw [e];rfl
 |cons e rest ih=>exact fun S S' ds h=>aH h fun _ h=>nd h (fun _ e=>nomatch e) fun d S2 _ h=>nd h (fun _ e=>nomatch e) fun vs S3 h3 h=>fX h fun e _=>by injection e with e;rw [e,List.length_cons,List.length_cons,ih _ _ _ h3]
theorem uR{T:String}{es:List Expr}{S1 S':St}{lab lab1:ag}{s s1:Shared}{res:bH V}{vs:List Value}{ds:List D}{Q:Value→Shared→Prop}{d:D}(hQ:ck c lab s S' res (dc c) Q)(hl:es.length≤1000)(hd:ds.length=es.length)(h1:some (bH.ok (V.d d),S1)=some (res,S'))(I1:Inv c lab1 S1 s1)(k1:Kept lab s.heap lab1 s1.heap)(m1:aV lab lab1)(r1:an s1.heap (Rs c.G lab1) vs ds)
  (hr: ∀h,At h s1.heap.objs.size (.type T) none (.seq vs.toArray 0)→¬Rs c.G lab1 s1.heap.objs.size→an h (Rs c.G lab1) vs ds→aD h (Rs c.G lab1) (.ref s1.heap.objs.size) d):
  vs.length≤sizeLine∧Q (.ref s1.heap.objs.size) {s1 with heap:=s1.heap.push {cls:=.type T,data:=.seq vs.toArray}}:=by
 have K:=ce (s:=s1) ({cls:=.type T,data:=.seq vs.toArray}:Obj);refine ⟨?_,dR hQ h1 (I1.keeps K) (k1.trans (.of_keeps (al K))) m1 (hr _ (.of (Heap.get?_push_size _ rfl)) (I1.fresh _ (Nat.le_refl _)) (r1.keeps (al K)))⟩;rw [r1.length,hd,sizeLine_eq];exact Nat.le_trans hl (Nat.le_of_ble_eq_true rfl)
theorem wS(fn:au)(es:List Expr)(k:Nat)(p:Pos):gL c (eval (.Tuple es k p) c.env) (oD fn r ns (.Tuple es k p)) (dc c):=by
 intro S lab s res S' hf I Q E hQ hE;refine aH hf fun hl hf=>wpAny_Tuple ((ow H hP hN p es).step hf I hE fun vs ds S1 lab1 s1 h1 I1 k1 m1 r1 dm=> ?_);exact uR H hP hN hQ hl (nd hf (fun _ e=>fX h1 fun e1 _=>nomatch e.symm.trans e1) fun nG S2 h2 h3=>fX h1 fun e1 _=>fX h3 fun e2 _=>by have:=e1.symm.trans e2;injection this with this;injection this with this;injection this with this;rw [this];exact mQ H hP hN _ _ _ _ h2) h1 I1 k1 m1 r1 fun h h1 h2 h3=>.tup _ _ _ _ h1 h2 h3
theorem Ah(fn:au)(es:List Expr)(p:Pos):gL c (eval (.List es p) c.env) (oD fn r ns (.List es p)) (dc c):=by
 intro S lab s res S' hf I Q E hQ hE;refine aH hf fun hl hf=>wpAny_List ((ow H hP hN p es).step hf I hE fun vs ds S1 lab1 s1 h1 I1 k1 m1 r1 dm=> ?_);exact uR H hP hN hQ hl (nd hf (fun _ e=>fX h1 fun e1 _=>nomatch e.symm.trans e1) fun nG S2 h2 h3=>fX h1 fun e1 _=>fX h3 fun e2 _=>by have:=e1.symm.trans e2;injection this with this;injection this with this;injection this with this;rw [this];exact mQ H hP hN _ _ _ _ h2) h1 I1 k1 m1 r1 fun h h1 h2 h3=>.lst _ _ _ _ h1 h2 h3
theorem Am(e:Expr)(p:Pos)(qa:Sem Value):gL c (isTrue (.UnaryOp .Not e p) c.env qa) (vv r ns (.UnaryOp .Not e p)) p0:=by
 intro S lab s res S' hf I Q E hQ hE;refine wpAny_isTrue_Not ((H.evT c ns hP hN e).step hf I hE fun a b S1 lab1 s1 h1 I1 k1 m1 r1 dm=> ?_);exact dR hQ h1 I1 k1 m1 (congrArg _ r1)
theorem C4(t a b:Expr)(p:Pos)(qa:Sem Value):gL c (isTrue (.IfExp t a b p) c.env qa) (vv r ns (.IfExp t a b p)) p0:=by
 intro S lab s res S' hf I Q E hQ hE;refine PyProof.Rows.isTrue_IfExp ((H.evT c ns hP hN t).step hf I hE fun x d S1 lab1 s1 h1 I1 k1 m1 r1 dm=> ?_)
 cases (show x=d from r1)
 cases x
 ·exact H.evT c ns hP hN b S1 lab1 s1 res S' h1 I1 Q E (ck.step hQ k1 m1) dm
 ·exact H.evT c ns hP hN a S1 lab1 s1 res S' h1 I1 Q E (ck.step hQ k1 m1) dm
theorem wU(op:BoolOp)(p:Pos)(qa:Sem Value)(es:List Expr):gL c (isTrue (.BoolOp op es p) c.env qa) (uy r ns op es) p0:=by
 induction es with
 |nil=>
  intro S lab s res S' hf I Q E hQ hE
  cases op
  ·exact isTrue_and_nil (dR hQ hf I (Kept.refl _ _) (.refl _) rfl)
  ·exact isTrue_or_nil (dR hQ hf I (Kept.refl _ _) (.refl _) rfl)
 |cons e rest ih=>
  intro S lab s res S' hf I Q E hQ hE
  cases op
  ·refine isTrue_and ((H.evT c ns hP hN e).step hf I hE fun x d S1 lab1 s1 h1 I1 k1 m1 r1 dm=> ?_)
   cases (show x=d from r1)
   cases x
   ·exact dR hQ h1 I1 k1 m1 rfl
   ·exact ih S1 lab1 s1 res S' h1 I1 Q E (ck.step hQ k1 m1) dm
  ·refine isTrue_or ((H.evT c ns hP hN e).step hf I hE fun x d S1 lab1 s1 h1 I1 k1 m1 r1 dm=> ?_)
   cases (show x=d from r1)
   cases x
   ·exact ih S1 lab1 s1 res S' h1 I1 Q E (ck.step hQ k1 m1) dm
   ·exact dR hQ h1 I1 k1 m1 rfl
theorem mX(e:Expr){f:Ev Bool}(PM:f=Ev.bind (r.ev ns e) fun v=>.opt (lG v))(he:isTrue e c.env (eval e c.env)= (do let v ←eval e c.env;standAt e.pos;holding [v] (truthy v))):gL c (isTrue e c.env (eval e c.env)) f p0:=by
 subst PM;intro S lab s res S' hf I Q E hQ hE;refine isTrue_plain ((H.ev c ns hP hN e).step hf I hE fun a v S1 lab1 s1 h1 I1 k1 m1 r1 dm=>vt h1 fun b hb h9=> ?_) he;obtain rfl:=nV hb;obtain rfl:a=_:=aD.inv r1;exact wpAny_truthy_bool (dR hQ h9 I1 k1 m1 rfl)
theorem FH(e:Expr):gL c (isTrue e c.env (eval e c.env)) (vv r ns e) p0:=by
 cases e with
 |UnaryOp op e p=>
  cases op with
  |Not=>exact Am H hP hN e p _
  |_=>exact mX H hP hN _ rfl rfl
 |BoolOp op es p=>exact wU H hP hN op p _ es
 |IfExp t a b p=>exact C4 H hP hN t a b p _
 |Compare l ops es p=>exact An H hP hN l ops es p
 |_=>exact mX H hP hN _ rfl rfl
end
set_option backward.match.sparseCases false
noncomputable def iM(K:Frag)(c:Addr)(f:Str):Bool:=findIn K (.ref c) f==some none&& (clsIn K c).any (·.hasDict)&&findIn K (.ref c) "__getattribute__"==some (some (.builtin "object.__getattribute__"))&&
 findIn K (.ref c) "__getattr__"==some none&&plainOver K c&& (takerIn K c f==some none)&&findIn K (.ref c) "__setattr__"==some (some (.builtin "object.__setattr__"))
theorem Ae(P:Params):cw.all (fun p=>p.2.attrs.all (iM (KF P) p.1))=true:=by
 unfold KF
 kernel_rfl
theorem d7{β:Type}{p:Addr×β→Bool}{l:List (Addr×β)}{x:Addr}{b:β}(h:l.all p=true)(e:l.lookup x=some b):p (x,b)=true:=List.all_eq_true.mp h _ (mem_of_lookup (κ:=Nat) _ _ _ e)
theorem mW(P:Params){c:Addr}{f:Str}(h:attrOk c f=true):iM (KF P) c f=true:=by
 unfold attrOk at h;obtain ⟨r,hr,ha⟩:=any_some h;have:=d7 (Ae P) hr;exact List.all_eq_true.mp this f (by simpa using ha)
theorem iH{cl:Value}{d:Option Addr}{es:Array DictEntry}{n:Nat}{sl:Array (Option Value)}(hk:StrKeys es)(name:Str):lookIn name ⟨cl,d,.dict es n,sl⟩=some (nsFind es name):=by
 unfold lookIn nsFind findBy;dsimp only;rw [←Array.find?_toList]
 cases h:es.toList.find? (·.key.isStr name) with
 |some e=>rfl
 |none=>
  dsimp only;have:es.toList.any (·.refKey)=false:=by
   rw [List.any_eq_false];intro e he;obtain ⟨m,t,h⟩:=hk e (Array.mem_toList_iff.mp he);simp [DictEntry.refKey,h]
  rw [this];rfl
theorem mL{h:Heap}{M:Addr→Prop}{v:Value}{d:D}(r:aD h M v d)(o:D2 d=true):handedIn v=true:=by
 cases r<;>try rfl
 cases v<;>first|rfl|cases o
section
variable{c:Fc}{lab:ag}{S:St}{s:Shared}
theorem jM(O:dq c)(X:(KF c.x.w.params).In s.heap){C x dx:Addr}{f:Str}(ha:attrOk C f=true)(h1:At s.heap x (.ref C) (some dx) .plain){es:Array DictEntry}{n:Nat}(h2:At s.heap dx (.type "dict") none (.dict es n))(h3:StrKeys es)
  {v:Value} (hv:nsFind es f=some v) (hh:handedIn v=true) {A:Around} {expr:Bool} {Q:Value→Shared→Prop} {E:Value→Shared→Prop} (h:Q v {s with toks:=s.toks+1}):wpAny (model pw c.x.w) A (getAttr (.ref x) f expr) Q E s:=by
 have F:=mW c.x.w.params ha;simp only [iM,Bool.and_eq_true,beq_iff_eq] at F;refine bc fun no=> ?_;obtain ⟨⟨⟨⟨⟨⟨f1,f2⟩,f3⟩,f4⟩,f5⟩,f6⟩,f7⟩:=F;obtain ⟨cd,AN,hd⟩:=any_some f2;refine no ?_;clear no;refine get_value X (C:=C) (ox:=⟨.ref C,some dx,.plain,#[]⟩) (od:=some ⟨.type "dict",none,.dict es n,#[]⟩) ⟨h1.exact,rfl,rfl,h2.exact⟩ f3 ?_ hh h;show (clsIn _ _).bind _=_;rw [AN];show (findIn _ _ _).bind _=_;rw [f1];show (ownOf cd _ f).bind _=_;show (if cd.hasDict=true then lookIn f _ else _:Option (Option Value)).bind _=_;rw [hd,iH h3,hv];rfl
end
section
variable{P:Fc→Prop}{r:ba}(H:aY P r){c:Fc}{ns:ab}(hP:P c)(hN:aT c ns)
include H hP hN
omit H hP hN in
theorem xX{v:V}(h:vD v=none):v= .ptr:=by cases v<;>first|rfl|exact nomatch h
omit H hP hN in
theorem uL{S1:St}{lab1:ag}{s1:Shared}(I1:Inv c lab1 S1 s1){sl:Slot}(h1:S1.σ=some sl){q:Addr×List (Str×FV)}(h2:oG sl=some q):DU s1.heap c.G lab1 q.1 q.2:=by
 have hs:=I1.slot;rw [h1,kX h2] at hs;exact hs
theorem Al(fn:au)(o:Expr)(f:Str)(p:Pos):gL c (eval (.Attribute o f p) c.env) (oD fn r ns (.Attribute o f p)) (dc c):=by
 intro S lab s res S' hf I Q E hQ hE;have O:=H.ok c hP;refine aH hf fun hp hf=>Attribute_any_ ((H.ev c ns hP hN o).step hf I hE fun a v S1 lab1 s1 h1 I1 k1 m1 r1 dm=> ?_) (by cases o<;>first|rfl|exact nomatch hp);have X:=I1.kf O;have t:=aw (s:=s1) (s1.toks+1);refine du h1 (fun hv h1=>ae h1 fun sl hσ h1=>ae h1 fun q hq h1=>aH h1 fun ha h1=>ae h1 fun y hl h9=> ?_) fun d hv h1=>ae h1 fun q hq h1=>aH h1 fun ha h1=>sk h1 fun d' hd h9=> ?_
 ·obtain rfl:=xX hv
  obtain ⟨x,rfl,hx⟩:=r1;obtain ⟨x',dx,es,n,g1,g2,g3,g4,g5,g6,g7⟩:=uL I1 hσ hq;obtain rfl:x=x':=I1.core.inj _ _ _ hx g1;obtain ⟨v,e1,rv⟩:=g7 f _ hl
  cases y with
  |d d=>exact aH h9 fun vm h9=>jM O X ha g3 g4 g5 e1 (mL rv vm) (dR hQ h9 (I1.keeps t) (k1.trans (.of_keeps (al t))) m1 (aD.keeps rv (al t)))
  |own l=>
   obtain ⟨a,vs,m,rfl,Au,kS,rr⟩:=rv;have r':aD s1.heap (Rs c.G (unl (.fld f) lab1)) (.ref a) (.lst l):=by
    refine .lst a vs l m kS ?_ (lT rr)
    rintro (z|z)
    ·exact nomatch (I1.core.disj a z).symm.trans Au
    ·unfold unl at z;rw [if_pos Au] at z;exact z rfl
   refine jM O X ha g3 g4 g5 e1 rfl (dR (lab':=unl (.fld f) lab1) hQ h9 (Inv.keeps ?_ t) (k1.trans (jB.trans (.of_keeps (al t)))) (m1.trans qm) (aD.keeps r' (al t)));refine ⟨I1.core.unl (fun e=>nomatch e),aK.mpr ⟨I1.isFrame,fun e=>nomatch e⟩, ?_,fun y m e q=> ?_,fun hc y e=> ?_, ?_⟩
   ·obtain ⟨cl,es,n,h1,h2,h3,h4⟩:=I1.frame
    exact ⟨cl,es,n,h1,h2,h3,fun y m e q=>let ⟨v,h5,h6⟩:=h4 y m e q;⟨v,h5,iB h6 (fun e=>nomatch e) (.inr ⟨f,rfl⟩)⟩⟩
   ·obtain ⟨j1,b,v,j2,j3,j4,j5,j6⟩:=I1.cells y m e q
    exact ⟨j1,b,v,j2,j3,fun hc=>aK.mpr ⟨j4 hc,fun e=>nomatch e⟩,j5,iB j6 (fun e=>nomatch e) (.inr ⟨f,rfl⟩)⟩
   ·obtain ⟨b,v,j1,j2,j3⟩:=I1.bare hc y e
    exact ⟨b,v,j1,aK.mpr ⟨j2,fun e=>nomatch e⟩,j3⟩
   ·refine ⟨x,dx,es,n,aK.mpr ⟨g1,fun e=>nomatch e⟩,aK.mpr ⟨g2,fun e=>nomatch e⟩,g3,g4,g5,⟨Nat.le_trans g6.1 (i8 _ _ _),fun y e=>g6.2 y ?_⟩,fun y b e=> ?_⟩
    ·rw [aN] at e
     by_cases hy:(y==f)=true
     ·rw [if_pos hy] at e;exact nomatch e
     ·rw [if_neg hy] at e;exact e
    ·rw [aN] at e
     by_cases hy:y=f
     ·subst hy
      rw [if_pos (beq_self_eq_true _)] at e;exact Option.some.inj e▸⟨_,e1,r'⟩
     ·rw [if_neg (mt beq_iff_eq.mp hy)] at e
      obtain ⟨v,e2,rv⟩:=g7 y b e;exact ⟨v,e2,xO rv (fun q=>hy (by injection q))⟩
 ·obtain rfl:=nH hv
  obtain rfl:=pD hq;obtain ⟨hl,vm⟩:=Option.filter_eq_some_iff.mp hd;obtain ⟨a,dx,m,g,es,n,rfl,g1,g2,g3,g4,g5,g6,g7,g8⟩:=aD.inst' r1;have e1:=(g7 f).1 d' hl;rw [←g5] at e1;exact jM O X ha g1 g3 g4 e1 (mL (g8 f d' hl) vm) (dR hQ h9 (I1.keeps t) (k1.trans (.of_keeps (al t))) m1 ((g8 f d' hl).keeps (al t)))
end
section
variable{w:World}{A:Around}{E:Value→Shared→Prop}{s:Shared}{M:Addr→Prop}
theorem Fs{v:D}{i:Int}{d:D}(e:nu v i=some d){va:Value}(ra:aD s.heap M va v)(t:Tok){value slice:Expr}{ops:List Value}(hs: ∀o i',subscripted slice false o i'=operate [o,i'] (getItem o i')){Q:Value→Shared→Prop}
  (h: ∀v' s',Keeps s s'→aD s'.heap M v' d→Q v' s'):wpAny (model pw w) A (subscriptTail value slice va (.int i t)) Q E s:=by
 cases v with
 |str x=>
  refine aH e fun hc e=> ?_;obtain ⟨h1,h2⟩:=Bool.and_eq_true_iff.mp hc;obtain ⟨u,rfl⟩:=ra.str';exact tail_any (typeIs_str s _ _) PySem.F.slot_str_getitem.lookup (SB.getItem h1 h2 (h _ _ (aw _) (Option.some.inj e▸ .str _ _))) (hs _ _)
 |lst l=>
  obtain ⟨a,vs,n,rfl,h1,h2,h3⟩:=ra.lst';have hl:s.heap.IsList a vs:=⟨_,h1.exact,rfl,n,rfl⟩;have aP:vs.size=l.length:=by rw [←Array.length_toList];exact h3.length
  have hg: ∀k,l[k]? =some d→∃x,vs[k]? =some x∧aD s.heap M x d:=fun k e=>let ⟨x,hx,rx⟩:=h3.get _ _ e;⟨x,by rw [←Array.getElem?_toList];exact hx,rx⟩;refine iP e (fun hc e=> ?_) fun T0 e=>aH e fun hc e=> ?_
  ·obtain ⟨v,hv,rv⟩:=hg _ e
   exact tail_any hl.typeIs slot_list_getitem.lookup (wpAny_getItem_list hl hc.1 (Int.lt_trans hc.2 (by decide)) (x:=v) hv (h _ _ (db _) rv)) (hs _ _)
  ·obtain ⟨v,hv,rv⟩:=hg _ e
   have hk:=(List.getElem?_eq_some_iff.mp e).1;have Od:i<0:=by
    clear h hs hl hg h3 ra h1;lia
   exact tail_any hl.typeIs slot_list_getitem.lookup (wpAny_getItem_list_neg hl Od (by rw [aP];exact hc.1) (Int.le_trans (by decide) hc.2) (x:=v) (by rw [aP];exact hv) (h _ _ (db _) rv)) (hs _ _)
 |tup l=>
  refine aH e fun hc e=>ae e fun k hk hd=> ?_;obtain ⟨a,vs,n,rfl,h1,h2,h3⟩:=ra.tup';obtain ⟨v,hv,rv⟩:=h3.get _ _ hd;have aP:vs.size=l.length:=by rw [←Array.length_toList];exact h3.length
  have ht:IsT s.heap a vs n:=h1.exact;exact tail_any (T:="tuple") ⟨_,ht,rfl⟩ PySem.F.slot_tuple_getitem.lookup (P.getItem_tuple ht (Int.le_trans (by decide) hc.1) (Int.lt_trans hc.2 (by decide)) (by rw [aP];exact hk) (by rw [←Array.getElem?_toList];exact hv) (h _ _ (db _) rv)) (hs _ _)
 |bytes b=>
  refine aH e fun hc e=> ?_;obtain ⟨b',t',rfl,rfl⟩:=ra.inv;have e1:b'=b'.toList.toArray:=Array.toArray_toList.symm;rw [e1];exact tail_any (typeIs_bytes s _ _) FB.slot_bytes_getitem.lookup (getItem_bytes (l:=b'.toList) (Nat.le_trans hc.2.2 (by rw [sizeLine_eq];decide)) hc.1 hc.2.1 (h _ _ (aw _) (Option.some.inj e▸ .int _ _))) (hs _ _)
 |_=>exact cg e
theorem rA{h:Heap}{M:Addr→Prop}{vs:List Value}{ds:List D}(r:an h M vs ds)(is:List Nat):an h M (is.filterMap (vs[·]?)) (is.filterMap (ds[·]?)):=by
 induction is with
 |nil=>exact .nil
 |cons i is ih=>
  rw [List.filterMap_cons,List.filterMap_cons]
  cases hd:ds[i]? with
  |none=>
   have hv:vs[i]? =none:=by
    rw [List.getElem?_eq_none_iff] at hd ⊢;rw [r.length];exact hd
   rw [hv];exact ih
  |some d=>
   refine bc fun no=> ?_;obtain ⟨v,hv,rv⟩:=r.get i d hd;refine no ?_;clear no;rw [hv];exact .cons _ _ _ _ rv ih
theorem uP{v:Value}{o:Option Int}(h:IsPart v o): ∃ol:Option (Int×Tok),v=partValue ol∧o=ol.map (·.1):=by
 cases h with
 |none=>exact ⟨none,rfl,rfl⟩
 |int i t=>exact ⟨some (i,t),rfl,rfl⟩
theorem zb{v:D}{lo hi:Option Int}{d:D}(e:jZ v lo hi=some d){va vl vh:Value}(ra:aD s.heap M va v)(hl:IsPart vl lo)(hh:IsPart vh hi)(hf:jp M s){value:Expr}{l u:Option Expr}{p:Pos}{Q:Value→Shared→Prop}
  (h: ∀v' s',Keeps s s'→aD s'.heap M v' d→Q v' s'):
  wpAny (model pw w) A (subscriptTail value (.Slice l u none p) va (.ref s.heap.objs.size)) Q E {s with heap:=s.heap.push {cls:=.type "slice",data:=.fields #[vl,vh,.none]}}:=by
 have K0:Keeps s {s with heap:=s.heap.push {cls:=.type "slice",data:=.fields #[vl,vh,.none]}}:=ce _
 cases v with
 |lst l0=>
  refine aH e fun hx e=> ?_;refine bc fun no=> ?_;obtain ⟨la,vs,n,rfl,h1,h2,h3⟩:=ra.lst';refine no ?_;clear no;have rV:vs.size=l0.length:=by rw [←Array.length_toList];exact h3.length
  have nh:s.heap.IsList la vs:=⟨_,h1.exact,rfl,n,rfl⟩;refine tail_any (ops:=[.ref s.heap.objs.size,.ref la]) (Heap.IsList.typeIs (s:={s with heap:=s.heap.push {cls:=.type "slice",data:=.fields #[vl,vh,.none]}}) (nh.push _)) list_getitem_lookup
   (wpAny_getItem_list_slice (nh.push _) (Heap.IsSliceOf.new ..) hl hh .none (fun z=>nomatch z) ?_ (rV▸hx)) rfl
  have K1:Keeps s {s with heap:=(s.heap.push {cls:=.type "slice",data:=.fields #[vl,vh,.none]}).push {cls:=.type "list",data:=.seq (slicePick vs lo hi none)}}:=
   ⟨_,s.toks,rfl,fun b o e=>Heap.get?_push_of_some _ (Heap.get?_push_of_some _ e)⟩
  refine h _ _ K1 (Option.some.inj e▸ .lst _ (slicePick vs lo hi none) _ 0 (.of (Heap.get?_push_size _ rfl)) (hf _ ?_) ?_)
  ·show s.heap.objs.size≤(s.heap.push _).objs.size
   rw [Heap.size_push];exact Nat.le_succ _
  ·have e1:(slicePick vs lo hi none).toList= (sliceRange (sliceBounds lo hi none l0.length).1 (sliceBounds lo hi none l0.length).2.1 (sliceBounds lo hi none l0.length).2.2).filterMap (vs.toList[·]?):=by
    simp [slicePick,rV]
   rw [e1];exact (rA h3 _).keeps (al K1)
 |str x=>
  refine aH e fun hx e=> ?_;refine bc fun no=> ?_;obtain ⟨t,rfl⟩:=ra.str';obtain ⟨ol,rfl,rfl⟩:=uP hl;obtain ⟨oh,rfl,rfl⟩:=uP hh;refine no ?_;clear no;refine tail_any (ops:=[.ref s.heap.objs.size,.str x t]) (typeIs_str _ _ _) PySem.F.slot_str_getitem.lookup (wpAny_getItem_str_slice (l:=ol) (u:=oh) (st:=none) ⟨_,Heap.get?_push_size _ rfl,rfl,rfl⟩ rfl ?_) rfl;exact post_val_or_str ⟨Nat.le_trans (Txt.slice_le x _ _) hx,fun t' k=>h _ _ (kL K0 (aw k)) (Option.some.inj e▸ .str _ _)⟩
 |bytes b=>
  refine aH e fun hb e=> ?_;refine bc fun no=> ?_;obtain ⟨b',t,rfl,rfl⟩:=ra.inv;refine no ?_;clear no;have gP:b'.size≤sizeLine:=by rw [←Array.length_toList];exact hb
  refine tail_any (ops:=[.ref s.heap.objs.size,.bytes b' t]) (typeIs_bytes _ _ _) FB.slot_bytes_getitem.lookup (getItem_meets (typeIs_bytes _ _ _) (by decide) FB.slot_bytes_getitem FB.entry_bytes_getitem (FB.args_bytes_getitem_2 _ _) (KBc.meets_slice2 b' t _ hl hh)
   ⟨Heap.IsSliceOf.new _ _ _ _,Nat.le_trans (KBc.size_picked_le b' lo hi) gP,fun t' k=>h _ _ (kL K0 (aw k)) (Option.some.inj e▸ ?_)⟩) rfl
  have e1:i6 b'.toList lo hi= (KBy.picked b' lo hi).toList:=by
   rw [KBc.picked_eq];unfold i6;simp
  rw [e1];exact .bytes _ _
 |_=>exact cg e
end
noncomputable def withG(c:Fc)(G:Addr→Prop):Fc:={c with G:=G}
noncomputable def aZ(G:Addr→Prop)(a:Addr):Addr→Prop:=fun b=>G b∨b=a
section
variable{h:Heap}{G:Addr→Prop}{lab:ag}{a:Addr}(ha:h.get? a=none)
include ha
theorem uM{v:Value}{d:D}(r:aD h (Rs G lab) v d):aD h (Rs (aZ G a) lab) v d:=
 r.mono fun b c d x n q _=>⟨q,fun z=>by
  rcases z with (z|z)|z
  ·exact n (.inl z)
  ·subst z;obtain ⟨sl,q,_⟩:=q;rw [ha] at q;cases q
  ·exact n (.inr z)⟩
theorem zo{v:List Value}{d:List D}(r:an h (Rs G lab) v d):an h (Rs (aZ G a) lab) v d:=
 r.mono fun b c d x n q _=>⟨q,fun z=>by
  rcases z with (z|z)|z
  ·exact n (.inl z)
  ·subst z;obtain ⟨sl,q,_⟩:=q;rw [ha] at q;cases q
  ·exact n (.inr z)⟩
theorem pf{L:cP}{v:Value}{l:List D}(r:bZ h G lab L v l):bZ h (aZ G a) lab L v l:=by
 obtain ⟨b,vs,m,e,hl,hb,r⟩:=r;exact ⟨b,vs,m,e,hl,hb,zo ha r⟩
theorem uN{x:Str}{v:Value}{l:Loc}(r:bp h G lab x v l):bp h (aZ G a) lab x v l:=by
 cases l with
 |d d=>exact uM ha r
 |own l=>exact pf ha r
 |ptr=>exact r
theorem E5{x:Str}{v:Value}{l:FV}(r:cQ h G lab x v l):cQ h (aZ G a) lab x v l:=by
 cases l with
 |d d=>exact uM ha r
 |own l=>exact pf ha r
theorem zn{w:World}{σ:Option Slot}(r:bf w h G lab σ):bf w h (aZ G a) lab σ:=by
 cases σ with
 |none=>trivial
 |some σ=>
  cases σ with
  |inst c fs=>
   obtain ⟨b,d,es,m,h1,h2,h3,h4,h5,h6,h7⟩:=r;exact ⟨b,d,es,m,h1,h2,h3,h4,h5,h6,fun f y e=>let ⟨v,h8,h9⟩:=h7 f y e;⟨v,h8,E5 ha h9⟩⟩
  |deck cells am=>
   obtain ⟨d,es,m,v,u,h1,h2,h3,h4,h5,h6⟩:=r;exact ⟨d,es,m,v,u,h1,h2,h3,h4,pf ha h5,h6⟩
end
section
variable{h:Heap}{G G':Addr→Prop}{lab:ag}(hg: ∀a,G a→G' a)
include hg
theorem ma{v:Value}{d:D}(r:aD h (Rs G' lab) v d):aD h (Rs G lab) v d:=r.mono fun _ _ _ _ n q _=>⟨q,fun z=>n (z.imp (hg _) id)⟩
theorem wh{v:List Value}{d:List D}(r:an h (Rs G' lab) v d):an h (Rs G lab) v d:=r.mono fun _ _ _ _ n q _=>⟨q,fun z=>n (z.imp (hg _) id)⟩
theorem md{L:cP}{v:Value}{l:List D}(r:bZ h G' lab L v l):bZ h G lab L v l:=by
 obtain ⟨b,vs,m,e,hl,hb,r⟩:=r;exact ⟨b,vs,m,e,hl,hb,wh hg r⟩
theorem jI{x:Str}{v:Value}{l:Loc}(r:bp h G' lab x v l):bp h G lab x v l:=by
 cases l with
 |d d=>exact ma hg r
 |own l=>exact md hg r
 |ptr=>exact r
theorem B3{x:Str}{v:Value}{l:FV}(r:cQ h G' lab x v l):cQ h G lab x v l:=by
 cases l with
 |d d=>exact ma hg r
 |own l=>exact md hg r
theorem oi{w:World}{σ:Option Slot}(r:bf w h G' lab σ):bf w h G lab σ:=by
 cases σ with
 |none=>trivial
 |some σ=>
  cases σ with
  |inst c fs=>
   obtain ⟨b,d,es,m,h1,h2,h3,h4,h5,h6,h7⟩:=r;exact ⟨b,d,es,m,h1,h2,h3,h4,h5,h6,fun f y e=>let ⟨v,h8,h9⟩:=h7 f y e;⟨v,h8,B3 hg h9⟩⟩
  |deck cells am=>
   obtain ⟨d,es,m,v,u,h1,h2,h3,h4,h5,h6⟩:=r;exact ⟨d,es,m,v,u,h1,h2,h3,h4,md hg h5,h6⟩
end
section
variable{c:Fc}{lab:ag}{S:St}{s:Shared}
theorem Inv.reserve(I:Inv c lab S s){o:Obj}(hc:o.cls≠ .none)(hs:o.slots= #[])(hf:o.isFreed=false):Inv (withG c (aZ c.G s.heap.objs.size)) lab S {s with heap:=s.heap.push o}:=by
 have n0:s.heap.get? s.heap.objs.size=none:=Heap.get?_none_of_le (Nat.le_refl _);have hn:lab s.heap.objs.size=none:=by
  cases q:lab s.heap.objs.size with
  |none=>rfl
  |some L'=>exact absurd (.inr (by rw [q];exact fun e=>nomatch e)) (I.core.new (Nat.le_refl _))
 have kp:Keeps s {s with heap:=s.heap.push o}:=ce o;have k:=al kp;have kS:At (s.heap.push o) s.heap.objs.size o.cls o.dict o.data:=by
  refine ⟨o.slots, ?_,fun _=>hs⟩;rw [Heap.get?_push_size _ hf]
 have I':=I.keeps kp;refine ⟨⟨I'.core.old,I'.core.os,I'.core.gens,fun a e=> ?_,fun env he=> ?_,I'.core.inj,fun a e=> ?_,I'.core.tab⟩,I.isFrame, ?_,fun x l e q=> ?_,fun hc x e=> ?_,(zn n0 I.slot).keeps k⟩
 ·rcases e with (e|e)|e
  ·exact I'.core.res a (.inl e)
  ·subst e
   refine ⟨?_,_,_,_,kS,hc⟩;refine bc fun no=> ?_;obtain ⟨cl,es,n,h1,_⟩:=I.frame;refine no ?_;clear no;exact Nat.le_trans (I.core.res _ (.inr (by rw [I.isFrame];exact fun e=>nomatch e))).1 (Nat.le_of_lt h1.lt)
  ·exact I'.core.res a (.inr e)
 ·refine bc fun no=> ?_
  obtain ⟨q,l,d,y,e,r,z⟩:=I'.core.fr env he;refine no ?_;clear no;exact ⟨q,l,d,y,e,r.imp .inl id,z⟩
 ·rcases e with e|e
  ·exact I.core.disj a e
  ·subst e;exact hn
 ·refine bc fun no=> ?_
  obtain ⟨cl,es,n,h1,h2,h3,h4⟩:=I.frame;refine no ?_;clear no;exact ⟨cl,es,n,h1.keep k,h2,h3,fun x l e q=>let ⟨v,h5,h6⟩:=h4 x l e q;⟨v,h5,(uN n0 h6).keeps k⟩⟩
 ·refine bc fun no=> ?_
  obtain ⟨k1,a,v,k2,k3,k4,k5,k6⟩:=I.cells x l e q;refine no ?_;clear no;exact ⟨k1,a,v,k2,fun hc=>.inl (k3 hc),k4,k5.keep k,(uN n0 k6).keeps k⟩
 ·refine bc fun no=> ?_
  obtain ⟨a,v,k1,k2,k3⟩:=I.bare hc x e;refine no ?_;clear no;exact ⟨a,v,k1,k2,k3.keep k⟩
theorem Inv.letGo{a:Addr}(I:Inv (withG c (aZ c.G a)) lab S s){cl:Value}{d:Option Addr}{x:Data}(ha:At s.heap a cl d x)(h1:cl≠ .type "frame")(h2:cl≠ .type "cell"):Inv c lab S s:=by
 have hg: ∀b,c.G b→aZ c.G a b:=fun b h=>.inl h;refine ⟨⟨I.core.old,I.core.os,I.core.gens,fun b e=>I.core.res b (e.imp (hg b) id),fun env he=> ?_,I.core.inj,fun b e=>I.core.disj b (.inl e),I.core.tab⟩,I.isFrame, ?_,fun x l e q=> ?_,I.bare,oi hg I.slot⟩
 ·obtain ⟨q,l,d',y,e,r,z,m⟩:=I.core.fr env he
  refine ⟨q,l,d',y,e, ?_,z,m⟩;rcases r with (r|r)|r
  ·exact .inl r
  ·subst r;exact absurd (ha.same z).1 h1
  ·exact .inr r
 ·obtain ⟨cl,es,n,h1,h2,h3,h4⟩:=I.frame
  exact ⟨cl,es,n,h1,h2,h3,fun x l e q=>let ⟨v,h5,h6⟩:=h4 x l e q;⟨v,h5,jI hg h6⟩⟩
 ·obtain ⟨k1,b,v,k2,k3,k4,k5,k6⟩:=I.cells x l e q
  refine ⟨k1,b,v,k2,fun hc=> ?_,k4,k5,jI hg k6⟩;rcases k3 hc with k3|k3
  ·exact k3
  ·subst k3;exact absurd (ha.same k5).1 h2
theorem Inv.touch{a:Addr}(I:Inv (withG c (aZ c.G a)) lab S s){h':Heap}{t:Nat}(hs:Heap.SameBut a s.heap h'){cl:Value}{d:Option Addr}{x:Data}(ha:At s.heap a cl d x){d':Option Addr}{x':Data}(Nf:At h' a cl d' x')(h0:cl≠ .none)(h1:cl≠ .type "frame")(h2:cl≠ .type "cell")(h3:cl≠ .type "code"):
  Inv (withG c (aZ c.G a)) lab S {s with heap:=h',toks:=t}:=by
 have hn:lab a=none:=I.core.disj a (.inr rfl);have hb:=(I.core.res a (.inl (.inr rfl))).1;have ne: ∀b,lab b≠none→b≠a:=fun b q e=>q (e▸hn);have na: ∀{b c d y},b≠a→At s.heap b c d y→At h' b c d y:=fun hb ⟨sl,q,z⟩=>⟨sl,(hs.2 _ hb).trans q,z⟩;have kr: ∀{v d},aD s.heap (Rs (aZ c.G a) lab) v d→aD h' (Rs (aZ c.G a) lab) v d:=fun r=>r.mono fun b _ _ _ n q _=>⟨na (fun e=>n (.inl (.inr e))) q,n⟩;have Gv: ∀{v d},an s.heap (Rs (aZ c.G a) lab) v d→an h' (Rs (aZ c.G a) lab) v d:=fun r=>r.mono fun b _ _ _ n q _=>⟨na (fun e=>n (.inl (.inr e))) q,n⟩;have ko: ∀{L v l},bZ s.heap (aZ c.G a) lab L v l→bZ h' (aZ c.G a) lab L v l:=fun ⟨b,vs,m,e,hl,hb,r⟩=>⟨b,vs,m,e,hl,na (ne b (by rw [hl];exact fun e=>nomatch e)) hb,Gv r⟩;have kl: ∀{x v l},bp s.heap (aZ c.G a) lab x v l→bp h' (aZ c.G a) lab x v l:=fun {x v l} r=>by
  cases l with
  |d d=>exact kr r
  |own l=>exact ko r
  |ptr=>exact r
 have kf: ∀{x v l},cQ s.heap (aZ c.G a) lab x v l→cQ h' (aZ c.G a) lab x v l:=fun {x v l} r=>by
  cases l with
  |d d=>exact kr r
  |own l=>exact ko r
 refine ⟨⟨I.core.old.step_same hb hs,I.core.os,I.core.gens,fun b e=> ?_,fun env he=> ?_,I.core.inj,I.core.disj,I.core.tab.1,I.core.tab.2.same (fun e=>Nat.lt_irrefl _ (Nat.lt_of_lt_of_le I.core.tab.1 (e▸hb))) hs ha (.inl h3)⟩,I.isFrame, ?_,fun x l e q=> ?_,fun hc x e=> ?_, ?_⟩
 ·obtain ⟨q,Mh,d',y',z,n⟩:=I.core.res b e
  refine ⟨q, ?_⟩
  by_cases hq:b=a
  ·subst hq;exact ⟨_,_,_,Nf,h0⟩
  ·exact ⟨_,_,_,na hq z,n⟩
 ·obtain ⟨q,l,d',y,e,r,z,m⟩:=I.core.fr env he
  exact ⟨q,l,d',y,e,r,na (fun e=>h1 (ha.same (e▸z)).1) z,m⟩
 ·obtain ⟨cl,es,n,h1,h2,h3,h4⟩:=I.frame
  exact ⟨cl,es,n,na (ne _ (by rw [I.isFrame];exact fun e=>nomatch e)) h1,h2,h3,fun x l e q=>let ⟨v,h5,h6⟩:=h4 x l e q;⟨v,h5,kl h6⟩⟩
 ·obtain ⟨k1,b,v,k2,k3,k4,k5,k6⟩:=I.cells x l e q
  exact ⟨k1,b,v,k2,k3,k4,na (fun e=>h2 (ha.same (e▸k5)).1) k5,kl k6⟩
 ·obtain ⟨b,v,k1,k2,k3⟩:=I.bare hc x e
  exact ⟨b,v,k1,k2,na (ne _ (by rw [k2];exact fun e=>nomatch e)) k3⟩
 ·have gQ:=I.slot
  cases hσ:S.σ with
  |none=>trivial
  |some σ=>
   rw [hσ] at gQ
   cases σ with
   |inst c fs=>
    obtain ⟨b,d,es,m,g1,g2,g3,g4,g5,g6,g7⟩:=gQ;exact ⟨b,d,es,m,g1,g2,na (ne _ (by rw [g1];exact fun e=>nomatch e)) g3,na (ne _ (by rw [g2];exact fun e=>nomatch e)) g4,g5,g6,fun f y e=>let ⟨v,h8,h9⟩:=g7 f y e;⟨v,h8,kf h9⟩⟩
   |deck cells am=>
    obtain ⟨d,es,m,v,u,g1,g2,g3,g4,g5,g6⟩:=gQ;exact ⟨d,es,m,v,u,g1,na (ne _ (by rw [g1];exact fun e=>nomatch e)) g2,g3,g4,ko g5,g6⟩
theorem dq.withG(O:dq c)(G:Addr→Prop):dq (Mine.withG c G):=⟨O.K,O.lim,O.bi,O.kind,O.globals,O.builtins,O.handled,O.frames,O.guards,O.here,O.hasFrame,O.depth,O.units,O.cellsOk,O.mn⟩
theorem aT.withG{ns:ab}(N:aT c ns)(G:Addr→Prop):aT (Mine.withG c G) ns:=⟨N.loc,N.cell,N.glob,N.free,N.code⟩
theorem ji.withG{G:Addr→Prop}{e:Value}{s':Shared}(x:ji (Mine.withG c G) lab s e s'):ji c lab s e s':=x
end
theorem Ck(P:Params):((KF P).lookup 945).isSome=true:=by unfold KF;kernel_rfl
theorem Ad{x:Cx}(K:xc x.w x.base):945<x.base.objs.size:=by
 obtain ⟨o,e⟩:=Option.isSome_iff_exists.mp (Ck x.w.params);exact sP K e
inductive Gi:List (Value×Value)→List Str→List Value→Prop where
 |nil:Gi [] [] []
 |cons (k:Str) (t:Tok) (v:Value) {r ks vs} (h:Gi r ks vs):Gi ((.str k t,v)::r) (k::ks) (v::vs)
theorem kK{w:World}{vs:List (Value×Value)}{ks:List Str}{vals:List Value}(h:Gi vs ks vals):Carries (strKind pw w) vs (ks.zip vals):=by
 induction h with
 |nil=>exact trivial
 |cons k t v h ih=>exact ⟨strKind_is pw w k t,rfl,ih⟩
theorem tM{vs:List (Value×Value)}{ks:List Str}{vals:List Value}(h:Gi vs ks vals):ks.length=vals.length:=by
 induction h with
 |nil=>rfl
 |cons k t v h ih=>exact congrArg (· +1) ih
theorem fc{ks:List Str}(h:ip ks=true):ks.Nodup:=by
 induction ks with
 |nil=>exact List.nodup_nil
 |cons k r ih=>
  obtain ⟨h1,h2⟩:=Bool.and_eq_true_iff.mp h;exact List.nodup_cons.mpr ⟨fun m=>Bool.false_ne_true ((congrArg (!·) (List.contains_iff_mem.mpr m)).symm.trans h1),ih h2⟩
theorem zF{ks:List Str}{vals:List Value}(h:ks.length=vals.length):(ks.zip vals).map (·.1)=ks:=List.map_fst_zip (Nat.le_of_eq h)
noncomputable def gx(c:Fc)(h:Heap)(lab:ag)(v:Value)(kv:List (Str×D)):Prop:=
 ∃d rR es n,v= .ref d∧(d==sysModules)=false∧lab d=none∧At h d (.type "dict") none (.dict es n)∧KeysOf (strKind pw c.x.w) es∧Pairs (strKind pw c.x.w) es.toList rR∧(rR.map (·.1)).Nodup∧
  ∀x,(∀y,kv.lookup x=some y→∃v,valueAt rR x=some v∧aD h (Rs c.G lab) v y)∧(kv.lookup x=none→valueAt rR x=none)
theorem tJ{c:Fc}{h:Heap}{lab:ag}{ks:List Str}{vals:List Value}{ds:List D}(hl:ks.length=vals.length)(r:an h (Rs c.G lab) vals ds)(x:Str):(∀y,(ks.zip ds).lookup x=some y→∃v,valueAt (ks.zip vals) x=some v∧aD h (Rs c.G lab) v y)∧((ks.zip ds).lookup x=none→valueAt (ks.zip vals) x=none):=by
 revert hl ks;refine an.ind (P:=fun vals ds=>∀{ks:List Str},ks.length=vals.length→(∀y,(ks.zip ds).lookup x=some y→∃v,valueAt (ks.zip vals) x=some v∧aD h (Rs c.G lab) v y)∧((ks.zip ds).lookup x=none→valueAt (ks.zip vals) x=none)) ?_ (fun v d vs ds r rs ih ks hl=> ?_) r
 ·intro ks hl
  rw [List.eq_nil_of_length_eq_zero hl];exact ⟨(fun y e=>nomatch e),fun _=>rfl⟩
 ·cases ks with
  |nil=>exact nomatch hl
  |cons k ks=>
  have ih:=ih (Nat.succ.inj hl);unfold valueAt at ih ⊢;rw [List.zip_cons_cons,List.zip_cons_cons,List.lookup_cons,List.find?_cons]
  by_cases hx:x=k
  ·subst hx
   rw [beq_self_eq_true,decide_eq_true rfl];exact ⟨fun y e=>Option.some.inj e▸⟨v,rfl,r⟩,fun e=>nomatch e⟩
  ·have h1:(x==k)=false:=beq_eq_false_iff_ne.mpr hx
   have h2:decide (k=x)=false:=decide_eq_false (fun e=>hx e.symm);rw [h1,h2];exact ih
section
variable{P:Fc→Prop}{r:ba}(H:aY P r)
include H
noncomputable def iE(env:Env)(pos:Pos)(keys:List (Option Expr))(values:List Expr):List (Sem Value×Sem Value):=(keys.filterMap fun k=>evalOpt k env).zip ((evalEach values env).map fun v=>do let x ←v;standAt pos;pure x)
omit H in
theorem vM{k:Option Expr}{x:Str}(h:xP k=some x): ∃i p,k=some (.Constant (.str x) i p):=match k,h with
 |some e,h=>ae (o:=iG e) h fun q e1 e2=>⟨q.2.1,q.2.2,congrArg some ((jf e1).trans (by rw [CB e2]))⟩
omit H in
theorem gB{k:Option Expr}{keys:List (Option Expr)}{ks:List Str}{P:Prop}(h:fu (k::keys)=some ks)(f: ∀x xs i p,k=some (.Constant (.str x) i p)→fu keys=some xs→ks=x::xs→P):P:=
 ae h fun x h1 h=>gM h fun xs h2 h3=>let ⟨i,p,e⟩:=vM h1;f x xs i p e h2 h3.symm
omit H in
theorem qx(env:Env)(pos:Pos)(keys:List (Option Expr)): ∀(values:List Expr) (ks:List Str),fu keys=some ks→
  (evalEachOpt keys env).zip ((evalEach values env).map fun v=>do let x ←v;standAt pos;pure x)= (iE env pos keys values).map fun p=>(some p.1,p.2):=by
 induction keys with
 |nil=>exact fun _ _ _=>rfl
 |cons k keys ih=>
  intro values ks h;refine gB h fun x xs i p e h2 _=> ?_;subst e
  cases values with
  |nil=>exact (List.zip_nil_right).trans (by rw [show iE env pos (some (.Constant (.str x) i p)::keys) []= [] from List.zip_nil_right];rfl)
  |cons v vs=>exact congrArg (_:: ·) (ih vs xs h2)
theorem pK{c:Fc}{ns:ab}(hP:P c)(hN:aT c ns)(pos:Pos)(keys:List (Option Expr)): ∀(values:List Expr) (ks:List Str),fu keys=some ks→ks.length=values.length→
  gL c (evalPairs (iE c.env pos keys values)) (ga r ns values) (fun h lab vs ds=>∃vals,Gi vs ks vals∧an h (Rs c.G lab) vals ds):=by
 induction keys with
 |nil=>
  intro values ks hk hl S lab s res S' hf I Q E hQ hE;obtain rfl:=Option.some.inj hk;obtain rfl:=List.eq_nil_of_length_eq_zero hl.symm;exact evalPairs_nil (fX hf fun e1 e2=>hQ _ _ _ _ e1 (e2▸I) (Kept.refl _ _) (.refl _) ⟨[],.nil,.nil⟩)
 |cons k keys ih=>
  intro values ks hk hl S lab s res S' hf I Q E hQ hE;refine gB hk fun x xs i p e h2 e2=> ?_;subst e e2
  cases values with
  |nil=>exact nomatch hl
  |cons v vs=>
  have t:=aw (s:=s) (s.toks+1);show wpAny (model pw c.x.w) c.A (evalPairs ((eval (.Constant (.str x) i p) c.env,do let y ←eval v c.env;standAt pos;pure y)::iE c.env pos keys vs)) Q E s;refine aH hf fun _ hf=>evalPairs_cons (Calls.Constant_str ?_);refine wpAny_bind ((aM H hP hN v).step hf (I.keeps t) (hE.step (.of_keeps (al t))) fun a d S1 lab1 s1 h1 I1 k1 m1 r1 dm=>wpAny_bind (wpAny_standAt (wpAny_pure ?_)));refine (ih vs xs h2 (Nat.succ.inj hl)).step h1 I1 dm fun AE ds S2 be s2 h2 I2 k2 m2 r2 np=> ?_;obtain ⟨vals,L3,hr⟩:=r2;exact fX h2 fun e1 e2=>hQ _ _ _ _ e1 (e2▸I2) ((Kept.of_keeps (al t)).trans (k1.trans k2)) (m1.trans m2) ⟨a::vals,.cons _ _ _ L3,.cons _ _ _ _ (k2.rep r1) hr⟩
omit H in
theorem pairs_len{env:Env}{pos:Pos}{keys:List (Option Expr)}{values:List Expr}{ks:List Str}(GC:fu keys=some ks)(hl:ks.length=values.length):(iE env pos keys values).length=ks.length:=by
 have h1: ∀(keys:List (Option Expr)) (ks:List Str),fu keys=some ks→(keys.filterMap fun k=>evalOpt k env).length=ks.length:=by
  intro keys
  induction keys with
  |nil=>exact fun ks h=>Option.some.inj h▸rfl
  |cons k keys ih=>
   intro ks h;refine gB h fun x xs i p e h2 e2=> ?_;subst e e2;exact congrArg (· +1) (ih _ h2)
 have h2: ∀es:List Expr,(evalEach es env).length=es.length:=by
  intro es
  induction es with
  |nil=>rfl
  |cons e es ih=>exact congrArg (· +1) ih
 unfold iE;rw [List.length_zip,h1 _ _ GC,List.length_map,h2, ←hl,Nat.min_self]
theorem ou{c:Fc}{ns:ab}(hP:P c)(hN:aT c ns)(pos:Pos)(keys:List (Option Expr))(values:List Expr):gL c (eval (.Dict keys values pos) c.env) (sV r ns keys values) (gx c):=by
 intro S lab s res S' hf I Q E hQ hE;refine ae hf fun ks GC hf=>aH hf fun vm hf=> ?_;refine bc fun no=> ?_;obtain ⟨KU,Ro⟩:=Bool.and_eq_true_iff.mp vm;obtain ⟨Oc,MP⟩:=Bool.and_eq_true_iff.mp KU;obtain ⟨Rp,LY⟩:=Bool.and_eq_true_iff.mp Oc;refine no ?_;clear no;replace LY:=beq_iff_eq.mp LY;replace MP:=of_decide_eq_true MP;have aP:=pairs_len (env:=c.env) (pos:=pos) GC LY;have kO:ks≠[]:=by rintro rfl;exact nomatch Ro
 have O:=H.ok c hP;have Ir:=I.reserve (o:={cls:=.type "dict",data:=.dict #[]}) (by simp) rfl rfl;have n0:s.heap.get? s.heap.objs.size=none:=Heap.get?_none_of_le (Nat.le_refl _);have Nj:=H.grow c (aZ c.G s.heap.objs.size) hP;have K0:=ce (s:=s) ({cls:=.type "dict",data:=.dict #[]}:Obj);refine wpAny_Dict_pairs (knd:=strKind pw c.x.w) (qx c.env pos keys values ks GC) (fun e=>kO ?_) (by rw [aP];exact MP) ((pK H (c:=withG c (aZ c.G s.heap.objs.size)) Nj (hN.withG _) pos keys values ks GC LY).step hf Ir ?_ fun vs ds S1 lab1 s1 h1 I1 k1 m1 r1 dm=> ?_)
 ·have:=congrArg List.length e
  rw [aP] at this;exact List.length_eq_zero_iff.mp this
 ·intro e lab' s' hr I' k' f'
  refine hE e lab' s' hr ?_ ((Kept.of_keeps (al K0)).trans k') (f'.withG.back (.of_keeps (al K0)));have hd:At s'.heap s.heap.objs.size (.type "dict") none (.dict #[] 0):=(k'.at _ _ _ _ (Ir.core.disj _ (.inr rfl)) (.of (Heap.get?_push_size _ rfl)) (by simp)).1;exact I'.letGo hd (by simp) (by simp)
 ·refine bc fun no=> ?_
  obtain ⟨vals,L3,D7⟩:=r1;refine no ?_;clear no;have hd:At s1.heap s.heap.objs.size (.type "dict") none (.dict #[] 0):=(k1.at _ _ _ _ (Ir.core.disj _ (.inr rfl)) (.of (Heap.get?_push_size _ rfl)) (by simp)).1;refine ⟨ks.zip vals,kK L3,⟨_,#[],0,hd.exact,⟨rfl,rfl,rfl⟩,rfl,fun e he=>by simp at he, ?_,List.nodup_nil⟩,fun h' pR iN=> ?_⟩
  ·first|exact trivial|exact .nil|constructor
  ·have PH:=tM L3
   rw [merged_nil_of_nodup _ (by rw [zF PH];exact fc Rp)] at pR;refine bc fun no=> ?_;obtain ⟨o,es,ep,ho,hx,GF,Av,Gx,MQ⟩:=pR;refine no ?_;clear no;have kS:At h' s.heap.objs.size (.type "dict") none (.dict es ep):=by
    refine bc fun no=> ?_;obtain ⟨oc,od,Pf,Pe⟩:=o;obtain ⟨rfl,rfl,rfl⟩:=hx;refine no ?_;clear no
    cases GF
    exact .of ho
   have I2:=I1.touch (t:=s1.toks+vs.length) iN hd kS (by simp) (by simp) (by simp) (by simp);have I3:=I2.letGo kS (by simp) (by simp);have big:=Ad O.K;have T1:c.x.base.objs.size≤s.heap.objs.size:=(Ir.core.res s.heap.objs.size (.inl (.inr rfl))).1;have hn:lab1 s.heap.objs.size=none:=I1.core.disj _ (.inr rfl);refine dR (lab':=lab1) (R:=gx c) hQ h1 I3 (fun a o e q nz=> ?_) m1 ⟨_,_,es,ep,rfl, ?_,hn,kS,Av,Gx,MQ, ?_⟩
   ·have ha:a≠s.heap.objs.size:=Nat.ne_of_lt (Heap.lt_size q)
    refine bc fun no=> ?_;obtain ⟨⟨sl,q1,q2⟩,q3⟩:=k1 a o e (al K0 _ _ q) nz;refine no ?_;clear no;exact ⟨⟨sl,(iN.2 a ha).trans q1,q2⟩,q3⟩
   ·show (s.heap.objs.size==1)=false
    simp;omega
   ·refine tJ PH ?_
    refine D7.mono fun a cl d x n q _=> ?_;have ha:a≠s.heap.objs.size:=fun e=>n (.inl (.inr e));refine bc fun no=> ?_;obtain ⟨sl,q1,q2⟩:=q;refine no ?_;clear no;exact ⟨⟨sl,(iN.2 a ha).trans q1,q2⟩,fun z=>n (z.imp .inl id)⟩
end
theorem gx.mapOf{c:Fc}{h:Heap}{lab:ag}{v:Value}{kv:List (Str×D)}(x:gx c h lab v kv): ∃d rR,v= .ref d∧(d==sysModules)=false∧h.MapOf (strKind pw c.x.w) d (valueAt rR)∧h.DictOf (strKind pw c.x.w) d rR∧
  ∀x,(∀y,kv.lookup x=some y→∃v,valueAt rR x=some v∧aD h (Rs c.G lab) v y)∧(kv.lookup x=none→valueAt rR x=none):=by
 refine bc fun no=> ?_;obtain ⟨d,rR,es,n,h1,h2,h3,h4,h5,h6,h7,h8⟩:=x;refine no ?_;clear no;have:h.DictOf (strKind pw c.x.w) d rR:=⟨_,es,n,h4.exact,⟨rfl,rfl,rfl⟩,rfl,h5,h6,h7⟩;exact ⟨d,rR,h1,h2,this.mapOf,this,h8⟩
theorem gx.kept{c:Fc}{h h':Heap}{lab lab':ag}(k:Kept lab h lab' h'){v:Value}{kv:List (Str×D)}(x:gx c h lab v kv):gx c h' lab' v kv:=by
 refine bc fun no=> ?_;obtain ⟨d,rR,es,n,h1,h2,h3,h4,h5,h6,h7,h8⟩:=x;obtain ⟨q1,q2⟩:=k.at _ _ _ _ h3 h4 (by simp);refine no ?_;clear no;exact ⟨d,rR,es,n,h1,h2,q2,q1,h5,h6,h7,fun x=>⟨fun y e=>let ⟨v,e1,e2⟩:=(h8 x).1 y e;⟨v,e1,k.rep e2⟩,(h8 x).2⟩⟩
theorem mU{h:Heap}{M:Addr→Prop}{v:Value}{d:D}{o:Option Int}(e:gh d=some o)(r:aD h M v d):IsPart v o:=by
 cases d with
 |none=>exact Option.some.inj e▸(r.inv:v=_)▸ .none
 |int i=>exact aH e fun _ e=>let ⟨t,q⟩:=r.int';Option.some.inj e▸q▸ .int _ _
 |_=>exact cg e
theorem za(sl:Expr):(∀da i',subscripted sl false (.ref da) i'=operate ((fun i'=>[i',.ref da]) i') (getItem (.ref da) i'))∨∀da i',subscripted sl false (.ref da) i'=operate ((fun i'=>[.ref da,i']) i') (getItem (.ref da) i'):=by
 cases sl with
 |Slice lo hi st pp=>cases st with
  |none=>exact .inl fun _ _=>rfl
  |some _=>exact .inr fun _ _=>rfl
 |_=>exact .inr fun _ _=>rfl
section
variable{P:Fc→Prop}{r:ba}(H:aY P r){c:Fc}{ns:ab}(hP:P c)(hN:aT c ns)
include H hP hN
theorem qU(e:Option Expr):gL c (evalPart e c.env) (uu r ns e) (ei c):=by
 cases e with
 |none=>
  intro S lab s res S' hf I Q E hQ hE;exact evalPart_none_step (dR (R:=ei c) hQ hf I (Kept.refl _ _) (.refl _) aD.none)
 |some e=>exact aM H hP hN e
theorem Bq(v i:Expr)(p:Pos)(hi: ∀lo hi st p,i≠ .Slice lo hi st p):gL c (eval (.Subscript v i p) c.env) (kZ r ns v i) (dc c):=by
 intro S lab s res S' hf I Q E hQ hE;refine Subscript_ ((aM H hP hN v).step hf I hE fun a d S1 lab1 s1 h1 I1 k1 m1 r1 dm=>(aM H hP hN i).step h1 I1 dm fun b d2 S2 be s2 h2 I2 k2 m2 r2 np=>ae h2 fun n hn h8=>ae h8 fun d hd h9=> ?_);obtain rfl:=ia hn;obtain ⟨t,rfl⟩:=aD.int' r2;refine Fs hd (k2.rep r1) _ (ops:=[]) (fun o i'=> ?_) fun v s' K R=>dR hQ h9 (I2.keeps K) ((k1.trans k2).trans (.of_keeps (al K))) (m1.trans m2) R
 cases i<;>first|rfl|exact absurd rfl (hi _ _ _ _)
theorem CY(fn:au)(v sl:Expr)(p:Pos):gL c (eval (.Subscript v sl p) c.env) (oD fn r ns (.Subscript v sl p)) (dc c):=by
 intro S lab s res S' hf I Q E hQ hE;have O:=H.ok c hP;refine du hf (fun _ hf=>du hf (fun hs hf=> ?_) fun q hq hf=>aH hf fun em hf=> ?_) fun q hq hf=> ?_
 ·exact Bq H hP hN v sl p (fun lo hi st p e=>by rw [e] at hs;exact nomatch hs) S lab s res S' hf I Q E hQ hE
 ·rw [ue hq,Option.isNone_iff_eq_none.mp em]
  refine Subscript_ ((aM H hP hN v).step hf I hE fun a d S1 lab1 s1 h1 I1 k1 m1 r1 dm=>wpAny_Slice ((qU H hP hN q.1).step h1 I1 dm fun b d2 S2 be s2 h2 I2 k2 m2 r2 np=>(qU H hP hN q.2.1).step h2 I2 np fun b' d3 S3 iW s3 h3 I3 k3 m3 r3 Md=>evalPart_none_step (ae h3 fun x hx h3=>ae h3 fun y hy h3=>ae h3 fun d hd h3=> ?_)));exact zb hd ((k2.trans k3).rep r1) (mU hx (k3.rep r2)) (mU hy r3) I3.fresh fun v s' K R=>dR hQ h3 (I3.keeps K) (((k1.trans k2).trans k3).trans (.of_keeps (al K))) ((m1.trans m2).trans m3) R
 ·rw [oB hq]
  refine Subscript_ ((ou H hP hN _ _ _).step hf I hE fun a kv S1 lab1 s1 h1 I1 k1 m1 r1 dm=>(aM H hP hN sl).step h1 I1 dm fun b d2 S2 be s2 h2 I2 k2 m2 r2 np=>ae h2 fun x hx h8=>ae h8 fun d hd h9=> ?_);refine bc fun no=> ?_;obtain rfl:=hV hx;obtain ⟨tt,rfl⟩:=aD.str' r2;obtain ⟨da,rR,rfl,Ax,hm,PR,hv⟩:=(r1.kept k2).mapOf;obtain ⟨v',AJ,rv⟩:=(hv _).1 _ hd;refine no ?_;clear no;have t:=aw (s:=s2) (s2.toks+1);have key: ∀ops:Value→List Value,(∀i',subscripted sl false (.ref da) i'=operate (ops i') (getItem (.ref da) i'))→wpAny (model pw c.x.w) c.A (subscriptTail (.Dict q.1 q.2.1 q.2.2) sl (.ref da) (.str x tt)) Q E s2:=fun ops hs=>
   tail_any (ops:=ops _) PR.typeIs slot_dict_getitem.lookup (wpAny_getItem_of (knd:=strKind pw c.x.w) (strKind_is pw c.x.w _ tt) hm AJ (dR hQ h9 (I2.keeps t) ((k1.trans k2).trans (.of_keeps (al t))) (m1.trans m2) (aD.keeps rv (al t)))) (hs _)
  exact (za sl).elim (fun h=>key _ (h da)) fun h=>key _ (h da)
end
inductive cD(c:Fc)(h:Heap)(lab:ag):List Value→List V→Prop where
 |nil:cD c h lab [] []
 |cons (a v r q):dc c h lab a v→cD c h lab r q→cD c h lab (a::r) (v::q)
theorem nY{c:Fc}{h h':Heap}{lab lab':ag}(k:Kept lab h lab' h')(m:bN lab lab'){a:Value}{v:V}(r:dc c h lab a v):dc c h' lab' a v:=by
 cases v with
 |d d=>exact k.rep r
 |ptr=>obtain ⟨x,e,hx⟩:=r;exact ⟨x,e,m x hx⟩
theorem cD.kept{c:Fc}{h h':Heap}{lab lab':ag}(k:Kept lab h lab' h')(m:bN lab lab'){a:List Value}{v:List V}(r:cD c h lab a v):cD c h' lab' a v:=by
 induction r with
 |nil=>exact .nil
 |cons a v r q h1 h2 ih=>exact .cons _ _ _ _ (nY k m h1) ih
theorem cD.ds{c:Fc}{h:Heap}{lab:ag}{a:List Value}{v:List V}(r:cD c h lab a v): ∀{ds},kR v=some ds→an h (Rs c.G lab) a ds:=by
 induction r with
 |nil=>intro ds e;obtain rfl:=Option.some.inj e;exact .nil
 |cons a v r q h1 h2 ih=>
  intro ds e;refine ae e fun d hd e8=>gM e8 fun nG e' e9=> ?_;obtain rfl:=nH hd;exact e9▸ .cons _ _ _ _ h1 (ih e')
section
variable{P:Fc→Prop}{r:ba}(H:aY P r){c:Fc}{ns:ab}(hP:P c)(hN:aT c ns)
include H hP hN
theorem jN(pos:Pos)(es:List Expr):gL c (spliced (backTo pos (starEach es c.env))) (kE r ns es) (fun h lab vs ds=>cD c h lab vs ds):=by
 induction es with
 |nil=>exact fun S lab s res S' hf I Q E hQ hE=>Calls.spliced_nil (fX hf fun e1 e2=>hQ _ _ _ _ e1 (e2▸I) (Kept.refl _ _) (.refl _) .nil)
 |cons e rest ih=>
  intro S lab s res S' hf I Q E hQ hE;refine aH hf fun hp hf=> ?_;rw [bz hp];exact Calls.spliced_cons ((H.ev c ns hP hN e).step hf I hE fun a v S1 lab1 s1 h1 I1 k1 m1 r1 dm=>ih.step h1 I1 dm fun vs ds S2 be s2 h2 I2 k2 m2 r2 np=>fX h2 fun e1 e2=>hQ _ _ _ _ e1 (e2▸I2) (k1.trans k2) (m1.trans m2) (.cons _ _ _ _ (nY k2 m2.2 r1) r2))
end
theorem Ly{r:ba}{ns:ab}{es:List Expr}{S:St}{x:bH (List V)×St}(h:kE r ns es S=some x)(hx: ∃vs S',x= (.ok vs,S'))(env:Env)(pos:Pos):(backTo pos (starEach es env)).any (·.1)=false:=by
 refine bc fun no=> ?_;obtain ⟨vs,S',rfl⟩:=hx;refine no ?_;clear no;revert S S' vs
 induction es with
 |nil=>exact fun _ _ _=>rfl
 |cons e rest ih=>
  refine fun {S} vs S' h=>aH h fun hp h=>nd h (fun _ e=>nomatch e) fun v S1 _ h=>nd h (fun _ e=>nomatch e) fun vs S2 h2 h=> ?_;rw [bz hp];exact ih _ _ h2
section
variable{w:World}{A:Around}{E:Value→Shared→Prop}{s:Shared}{M:Addr→Prop}
theorem uk{h:Heap}{vs:List Value}{d:D}(r:an h M vs [d]): ∃v,vs= [v]∧aD h M v d:=by
 obtain ⟨v,r,rfl,h1,h2⟩:=r.cons';exact ⟨v,h2.nil'▸rfl,h1⟩
theorem sE{n:Nat}(h:n≤sizeLine): ¬(n:Int)≥2 ^ 63:=by rw [sizeLine_eq] at h;lia
theorem jh.size{h:Heap}{l:List D}{vs:Array Value}(r:an h M vs.toList l):vs.size=l.length:=by rw [←Array.length_toList];exact r.length
theorem Fh{a d:D}(e:GS a=some d){v:Value}(r:aD s.heap M v a){Q:Value→Shared→Prop}
  (h: ∀v s',Keeps s s'→aD s'.heap M v d→Q v s'):wpAny (model pw w) A (call (.builtin "len") [v]) Q E s:=by
 have hi: ∀i t k,some (.int i)=some d→Q (.int i t) {s with toks:=k}:=fun i t k e=>h _ _ (aw _) (Option.some.inj e▸ .int _ _)
 cases a with
 |str x=>exact aH e fun hx e=>let ⟨t,q⟩:=r.str';q▸P.len_str (sE hx) (hi _ _ _ e)
 |bytes x=>
  refine aH e fun hx e=> ?_;obtain ⟨b,t,rfl,rfl⟩:=r.inv;rw [Array.length_toList] at hx e;exact len_bytes (Nat.le_trans hx (by rw [sizeLine_eq];decide)) (hi _ _ _ e)
 |lst l=>
  refine aH e fun hx e=> ?_;obtain ⟨a,vs,n,rfl,h1,h2,h3⟩:=r.lst';rw [←jh.size h3] at hx e;exact Calls.call_len_list ⟨_,h1.exact,rfl,n,rfl⟩ (Int.not_le.mp (sE hx)) (hi _ _ _ e)
 |tup l=>
  refine aH e fun hx e=> ?_;obtain ⟨a,vs,n,rfl,h1,h2,h3⟩:=r.tup';rw [←jh.size h3] at hx e;exact P.len_tuple (n:=n) (h1.exact:IsT s.heap a vs n) (sE hx) (hi _ _ _ e)
 |_=>exact cg e
theorem BI{a d:D}(e:Du a=some d){v:Value}(r:aD s.heap M v a)(hg:A.guards=some [])(hu:A.units≤6000){Q:Value→Shared→Prop}
  (h: ∀v s',Keeps s s'→aD s'.heap M v d→Q v s'):wpAny (model pw w) A (call (.builtin "repr") [v]) Q E s:=by
 refine ae e fun l hl e=>ae e fun p hp e=>aH e fun hx e9=> ?_;refine bc fun no=> ?_;obtain rfl:=hY hl;obtain ⟨Nx,x4⟩:=Bool.and_eq_true_iff.mp hx;obtain ⟨Qs,x3⟩:=Bool.and_eq_true_iff.mp Nx;obtain ⟨x1,x2⟩:=Bool.and_eq_true_iff.mp Qs;obtain ⟨as,rd⟩:=r.reads (p:=.list p) (congrArg (Option.map _) hp);obtain ⟨a,vs,n,rfl,h1,h2,h3⟩:=r.lst';refine no ?_;clear no;refine repr_of_reads' rd x1 (fun e=>by rw [e] at x2;exact nomatch x2) hg ?_ (fun _ _ e=>e) (fun h' u tk k=>h _ _ ⟨h',tk,rfl,k⟩ (Option.some.inj e9▸ .str _ _)) (of_decide_eq_true x4);replace x3:=of_decide_eq_true x3;have hc:cLine=9900:=rfl;clear rd h h1 h2 h3 x4;lia
theorem FR{id:String}{ds:List D}{d:D}(e:jg id ds=some d){vs:List Value}(rs:an s.heap M vs ds)(hf:jp M s)(hg:A.guards=some [])(hu:A.units≤6000){Q:Value→Shared→Prop}
  (h: ∀v s',Keeps s s'→aD s'.heap M v d→Q v s'):wpAny (model pw w) A (call (.builtin id) vs) Q E s:=by
 refine ae e fun a ha e=> ?_;obtain rfl:=dU ha;obtain ⟨v,rfl,r⟩:=uk rs;refine f8 e (fun hi e=> ?_) fun _ e=>f8 e (fun hi e=> ?_) fun _ e=>f8 e (fun hi e=> ?_) fun _ e=>f8 e (fun hi e=> ?_) fun _ e=>cg e
 ·obtain rfl:=beq_iff_eq.mp hi
  exact Fh e r h
 ·obtain rfl:=beq_iff_eq.mp hi
  refine ae e fun x hx e=>aH e fun hl e9=> ?_;obtain rfl:=hV hx;obtain ⟨t,rfl⟩:=r.str';exact ord_of_one hl (h _ _ (aw _) (Option.some.inj e9▸ .int _ _))
 ·obtain rfl:=beq_iff_eq.mp hi
  refine ae e fun x hx e=>aH e fun hl e9=> ?_;obtain rfl:=ia hx;obtain ⟨t,rfl⟩:=r.int';exact chr_of_range hl.1 hl.2 (h _ _ (aw _) (Option.some.inj e9▸ .str _ _))
 ·obtain rfl:=beq_iff_eq.mp hi
  exact BI e r hg hu h
theorem tS(ds:List D): ∀{vs:List Value} {bs:List UInt8},jz ds=some bs→an s.heap M vs ds→∃ns:List Int,IntsAre vs ns∧(∀n∈ns,0≤n∧n<256)∧bs=ns.map fun n=>n.toNat.toUInt8:=by
 induction ds with
 |nil=>exact fun e rs=>⟨[],rs.nil'▸ .nil,(fun _ h=>nomatch h),(Option.some.inj e).symm⟩
 |cons d ds ih=>
  refine fun {vs bs} e rs=>ae e fun i hi e=>aH e fun hb e=>gM e fun Uc e' e9=> ?_;refine bc fun no=> ?_;obtain rfl:=ia hi;obtain ⟨v,vs,rfl,r,q⟩:=rs.cons';obtain ⟨t,rfl⟩:=r.int';obtain ⟨ns,h1,h2,rfl⟩:=ih e' q;refine no ?_;clear no;exact ⟨i::ns,.cons _ _ h1,fun n hn=>(List.mem_cons.mp hn).elim (fun e=>e▸hb) (h2 n),e9.symm⟩
theorem uU{a:Addr}{T:String}{xs:Array Value}{n:Nat}{l:List D}{d:D}(hf:jp M s)(hT:T="list"∨T="tuple")(ha:At s.heap a (.type T) none (.seq xs n))(hr:an s.heap M xs.toList l)(hl:l.length≤sizeLine){Q:Value→Shared→Prop}
  (h: ∀v s',Keeps s s'→aD s'.heap M v (.lst l)→Q v s'):wpAny (model pw w) A (call (.type "list") [.ref a]) Q E s:=by
 obtain ⟨sl,ho,hz⟩:=ha;exact call_list_seq a hT ho rfl rfl (fun h' c' k hD=>h _ _ ⟨h',s.toks,rfl,k⟩ (.lst _ xs l c' (.of hD) (hf _ (Nat.le_refl _)) (hr.keeps k))) (by rw [jh.size hr];exact hl)
theorem EP{id:String}{ds:List D}{d:D}(e:xi id ds=some d){vs:List Value}(rs:an s.heap M vs ds)(hf:jp M s)(hx: ∀a,M a→∃o,s.heap.get? a=some o)(hh:A.handled=none){Q:Value→Shared→Prop}
  (h: ∀v s',Keeps s s'→aD s'.heap M v d→Q v s'):wpAny (model pw w) A (call (.type id) vs) Q E s:=by
 refine ae e fun a ha e=> ?_;obtain rfl:=dU ha;obtain ⟨v,rfl,r⟩:=uk rs;refine f8 e (fun hi e=> ?_) fun _ e=>f8 e (fun hi e=> ?_) fun _ e=>f8 e (fun hi e=> ?_) fun _ e=>f8 e (fun hi e=> ?_) fun _ e=>cg e
 ·obtain rfl:=beq_iff_eq.mp hi
  cases a with
  |bool b=>exact (r.inv:v=_)▸call_int_bool (h _ _ (aw _) (Option.some.inj e▸ .int _ _))
  |int i=>exact let ⟨t,q⟩:=r.int';q▸call_int_int (h _ _ (db _) (Option.some.inj e▸ .int _ _))
  |_=>exact cg e
 ·obtain rfl:=beq_iff_eq.mp hi
  cases a with
  |lst l=>exact aH e fun hl e=>let ⟨a,xs,n,q,h1,h2,h3⟩:=r.lst';q▸uU (d:=d) hf (.inl rfl) h1 h3 hl (Option.some.inj e▸h)
  |tup l=>exact aH e fun hl e=>let ⟨a,xs,n,q,h1,h2,h3⟩:=r.tup';q▸uU (d:=d) hf (.inr rfl) h1 h3 hl (Option.some.inj e▸h)
  |_=>exact cg e
 ·obtain rfl:=beq_iff_eq.mp hi
  cases a with
  |tup l=>
   obtain ⟨a,xs,n,rfl,h1,h2,h3⟩:=r.tup';exact call_tuple_same ⟨_,h1.exact,rfl,n,rfl⟩ (h _ _ (db _) (Option.some.inj e▸r))
  |lst l=>
   refine aH e fun hl e=> ?_;obtain ⟨a,xs,n,rfl,h1,h2,h3⟩:=r.lst';refine call_tuple_list ⟨_,h1.exact,rfl,n,rfl⟩ (fun h' k=> ?_) (by rw [jh.size h3];exact hl);have k2: ∀b o,s.heap.get? b=some o→(h'.push {cls:=.type "tuple",data:=.seq xs}).get? b=some o:=fun b o e=>Heap.get?_push_of_some _ (k b o e);refine h _ _ ⟨_,s.toks,rfl,k2⟩ (Option.some.inj e▸ .tup _ xs _ 0 (.of (Heap.get?_push_size _ rfl)) (fun z=> ?_) (h3.keeps k2));obtain ⟨o,e⟩:=hx _ z;exact Nat.lt_irrefl _ (Heap.lt_size (k _ _ e))
  |_=>exact cg e
 ·obtain rfl:=beq_iff_eq.mp hi
  refine ae e fun l hl e=>aH e fun hs e=>gM e fun bs hb e9=> ?_;obtain rfl:=hY hl;obtain ⟨a,xs,n,rfl,h1,h2,h3⟩:=r.lst';obtain ⟨ns,i1,i2,rfl⟩:=tS _ hb h3;have e1:s.heap.IsList a xs.toList.toArray:=⟨_,h1.exact,rfl,n,by rw [Array.toArray_toList]⟩;refine call_bytes_ints e1 i1 i2 (by rw [h3.length];exact hs) hh fun h' t k kp=>h _ _ ⟨h',k,rfl,kp⟩ (e9▸ ?_);have e2:(byteArr ns).toList=ns.map fun n=>n.toNat.toUInt8:=by simp [byteArr]
  exact e2▸aD.bytes (h:=h') (M:=M) (byteArr ns) t
end
section
variable{M:Model}{A:Around}{E:Value→Shared→Prop}{s:Shared}{env:Env}
theorem eI{f:Value}{args:List (Bool×Sem Value)}{Q:Args→Shared→Prop}(hp:args.any (·.1)=false)(h:wpAny M A (spliced args) (fun vs s'=>Q ⟨vs,[]⟩ s') E s):wpAny M A (evalArgs f true args []) Q E s:=by
 cases args with
 |nil=>
  unfold evalArgs;show wpAny M A (spliced []>>=_) Q E s;refine wpAny_bind (wpAny_mono h (fun vs s' h'=> ?_) fun _ _ x=>x);refine wpAny_bind (wpAny_pure ?_);refine wpAny_holding ?_;exact wpAny_bind (wpAny_pure (wpAny_bind (wpAny_pure (wpAny_pure h'))))
 |cons a rest=>
  obtain ⟨b,x⟩:=a
  cases b
  ·exact evalArgs_plain h
  ·exact nomatch hp
theorem dg{env:Env}(pos:Pos){args:List Expr}(h:args.all aE=true):(backTo pos (starEach args env)).any (·.1)=false:=by
 induction args with
 |nil=>rfl
 |cons e rest ih=>
  obtain ⟨h1,h2⟩:=Bool.and_eq_true_iff.mp h;rw [bz h1];exact ih h2
theorem CU{o:Expr}(h:yH o=true)(name:Str)(env:Env)(t:Sem Value):attributeBase o name env t=t:=by
 cases o<;>try rfl
 rename_i f args Mw p
 cases f<;>try rfl
 cases args<;>try rfl
 cases Mw<;>first|rfl|cases h
theorem d4{o:Expr}{name:Str}{ap p:Pos}{args:List Expr}{Q:Value→Shared→Prop}(hl:cF (.Attribute o name ap) p=true)(EC:args.length≤8)(hp:args.all aE=true)
  (h:wpAny M A (eval o env) (fun ov s₁=>∀pl,wpAny M A (getMethod ov name pl) (fun fm s₂=>wpAny M A (callWith p fm.1 fm.2 (backTo p (starEach args env)) []) Q E s₂) E s₁) E s):
  wpAny M A (eval (.Call (.Attribute o name ap) args [] p) env) Q E s:=by
 obtain ⟨xD,hb⟩:=Bool.and_eq_true_iff.mp hl;rw [arm_eval_Call,CU hb];refine wpAny_bind (wpAny_mono h (fun ov s₁ h₁=> ?_) fun _ _ e=>e);refine wpAny_bind (wpAny_standAt ?_);have K6:methodCallForm (args.length+ ([]:List Keyword).length) (backTo p (starEach args env)) (backToKw p (keywordEach [] env))=true:=by
  unfold methodCallForm;have:=dg (env:=env) p hp;have h2:(backTo p (starEach args env)).all (fun x=> !x.1)=true:=by
   rw [List.all_eq_true];rw [List.any_eq_false] at this;intro x hx
   simpa using this x hx
  rw [h2];exact Bool.and_eq_true_iff.mpr ⟨rfl,decide_eq_true (Nat.lt_of_le_of_lt EC (by decide))⟩
 have GZ:methodCallPos true o env ap p=pure p:=if_pos xD;unfold methodCall;rw [K6];refine wpAny_bind (wpAny_holding (wpAny_mono (h₁ _) (fun fm s₂ h₂=> ?_) fun _ _ e=>e));exact wpAny_bind (wpAny_of_eq GZ h₂)
theorem Db{pos:Pos}{id:String}{first:List Value}{args:List Expr}{Q:Value→Shared→Prop}(hp:args.all aE=true)
  (h:wpAny M A (spliced (backTo pos (starEach args env))) (fun vs s₁=>wpAny M A (call (.builtin id) (first++vs)) Q E s₁) E s):wpAny M A (callWith pos (.builtin id) first (backTo pos (starEach args env)) []) Q E s:=
 Calls.callWith_builtin (dg pos hp) (eI (dg pos hp) h)
theorem pM{pos:Pos}{T:String}{first:List Value}{args:List Expr}{Q:Value→Shared→Prop}(hp:args.all aE=true)
  (h:wpAny M A (spliced (backTo pos (starEach args env))) (fun vs s₁=>wpAny M A (call (.type T) (first++vs)) Q E s₁) E s):wpAny M A (callWith pos (.type T) first (backTo pos (starEach args env)) []) Q E s:=
 PySem.callWith_type (dg pos hp) (eI (dg pos hp) h)
theorem Da{K:Frag}{pos:Pos}{f:Value}{first:List Value}{args:List Expr}{Q:Value→Shared→Prop}(hp:args.all aE=true)(hk:keepIn K f=true)
  (h:wpAny M A (spliced (backTo pos (starEach args env))) (fun vs s₁=>K.In s₁.heap∧wpAny M A (call f (first++vs)) Q E s₁) E s):wpAny M A (callWith pos f first (backTo pos (starEach args env)) []) Q E s:=
 callWith_of (by rw [dg pos hp];rfl) (keeps_K hk) (eI (dg pos hp) h)
end
theorem Bt{h:Heap}{M:Addr→Prop}(l:List D): ∀{ts:List Str} {vs:List Value},jY l=some ts→an h M vs l→∃l':List (Str×Tok),vs=strValues l'∧l'.map (·.1)=ts:=by
 induction l with
 |nil=>exact fun e r=>⟨[],r.nil',Option.some.inj e⟩
 |cons d ds ih=>
  refine fun {ts vs} e r=>ae e fun x hx e=>gM e fun TB e' e9=> ?_;obtain rfl:=hV hx;obtain ⟨v,vs,rfl,r1,q⟩:=r.cons';obtain ⟨t,rfl⟩:=r1.str';obtain ⟨l',rfl,rfl⟩:=ih e' q;exact ⟨(x,t)::l',rfl,e9⟩
theorem qt{h:Heap}{M:Addr→Prop}: ∀(l:List (Str×Tok)),an h M (strValues l) ((l.map (·.1)).map .str)
 |[]=>.nil
 |(x,t)::r=>.cons _ _ _ _ (.str x t) (qt r)
theorem BX{h:Heap}{M:Addr→Prop}{vs:List Value}(r:an h M vs []):vs= []:=r.nil'
theorem BW{h:Heap}{M:Addr→Prop}{vs:List Value}{y:Str}(r:an h M vs [.str y]): ∃u,vs= [.str y u]:=by
 obtain ⟨v,rfl,r1⟩:=uk r;obtain ⟨u,rfl⟩:=r1.str';exact ⟨u,rfl⟩
noncomputable def ve(m:Str)(x:Str)(ds:List D)(d:D)(id:String):Prop:=
 PySem.Slot "str" m id∧typeOf (.builtin id)=pure (.type "method_descriptor")∧iX.lookup m=some id∧∀{w:World} {A:Around} {E:Value→Shared→Prop} {s:Shared} {M:Addr→Prop} {Q:Value→Shared→Prop} {vs:List Value} (t:Tok),an s.heap M vs ds→jp M s→
  (∀v s',Keeps s s'→aD s'.heap M v d→Q v s')→wpAny (model pw w) A (call (.builtin id) (.str x t::vs)) Q E s
theorem th{n:Nat}(h:n≤sizeLine):Builtin.Str.tooLong n=false:=by
 rw [sizeLine_eq] at h;unfold Builtin.Str.tooLong;rw [sizeLine_eq];simpa using h
theorem sh{m x y:Str}{d:D}{id:String}(h1:PySem.Slot "str" m id)(h2:typeOf (.builtin id)=pure (.type "method_descriptor"))(h3:iX.lookup m=some id)(h4: ∀{w:World} {A:Around} {E:Value→Shared→Prop} {s:Shared} {M:Addr→Prop} {Q:Value→Shared→Prop} (t u:Tok),jp M s→
  (∀v s',Keeps s s'→aD s'.heap M v d→Q v s')→wpAny (model pw w) A (call (.builtin id) [.str x t,.str y u]) Q E s): ∃id,ve m x [.str y] d id:=
 ⟨id,h1,h2,h3,fun t r hf h=>by obtain ⟨u,rfl⟩:=BW r;exact h4 t u hf h⟩
theorem y7{x y:Str}(hl:(y.length==0)=false∧x.length≤sizeLine∧(Builtin.Str.partsBetween x (Builtin.Str.occurrences x y 0 x.length (x.length+1)) y.length).length≤sizeLine){w:World}{A:Around}{E:Value→Shared→Prop}{s:Shared}{M:Addr→Prop}{Q:Value→Shared→Prop}(t u:Tok)(hf:jp M s)
  (h: ∀v s',Keeps s s'→aD s'.heap M v (.lst ((Txt.split x y).map .str))→Q v s'):wpAny (model pw w) A (call (.builtin "str.split") [.str x t,.str y u]) Q E s:=by
 refine bc fun no=> ?_;obtain ⟨hy,hx,hn⟩:=hl;refine no ?_;clear no;have dR: ∀(l:List (Str×Tok)) (k:Nat),l.map (·.1)=Txt.split x y→Q (.ref s.heap.objs.size) {s with heap:=s.heap.push {cls:=.type "list",data:=.seq (strValues l).toArray},toks:=k}:=fun l k hl=>by
  refine h _ _ ⟨_,_,rfl,fun b o e=>Heap.get?_push_of_some _ e⟩ (.lst _ _ _ 0 (.of (Heap.get?_push_size _ rfl)) (hf _ (Nat.le_refl _)) ?_);rw [←hl,List.toList_toArray];exact qt l
 cases h1:(decide (x.length<y.length)||decide (Builtin.Str.strKind x<Builtin.Str.strKind y))
 ·cases L5:(Builtin.Str.occurrences x y 0 x.length (x.length+1)).isEmpty
  ·refine call_meets F.slot_str_split (typeIs_str _ _ _) F.entry_str_split (F.args_str_split_2 _ _) (meets_str_split_sep x y t u h1 hy L5 hx hn) ?_
   show wants Q E _ {s with toks:=_,heap:=s.heap.push {cls:=.type "list",data:=.seq (strsFrom s.toks (Builtin.Str.partsBetween x (Builtin.Str.occurrences x y 0 x.length (x.length+1)) y.length)).toArray}};rw [strsFrom_eq];exact dR (numbered s.toks _) _ ((numbered_texts _ _).trans ((if_neg (ne_true_of_eq_false h1)).trans (if_neg (ne_true_of_eq_false L5))).symm)
  ·exact call_meets F.slot_str_split (typeIs_str _ _ _) F.entry_str_split (F.args_str_split_2 _ _) (meets_str_split_not_found x y t u h1 hy L5)
    (dR [(x,t)] s.toks ((if_neg (ne_true_of_eq_false h1)).trans (if_pos L5)).symm)
 ·exact call_meets F.slot_str_split (typeIs_str _ _ _) F.entry_str_split (F.args_str_split_2 _ _) (meets_str_split_cannot_occur x y t u h1)
   (dR [(x,t)] s.toks (if_pos h1).symm)
theorem Bu{x m:Str}{ds:List D}{d:D}(e:kP x m ds=some d): ∃id,ve m x ds d id:=by
 refine f8 e (fun hm e=>aH e fun hl e9=> ?_) fun _ e=>f8 e (fun hm e=>ae e fun a ha e=>ae e fun l Au e=>ae e fun ts MH e=>aH e fun vm e9=> ?_) fun _ e=>ae e fun y hy e=> ?_
 ·obtain rfl:=beq_iff_eq.mp hm
  obtain rfl:=List.isEmpty_iff.mp hl.1;exact ⟨_,F.slot_str_lower,F.type_str_lower,rfl,fun t r hf h=>by rw [BX r];exact SC.lower (th hl.2) (h _ _ (aw _) (Option.some.inj e9▸ .str _ _))⟩
 ·obtain rfl:=beq_iff_eq.mp hm
  obtain rfl:=dU ha;obtain rfl:=hY Au;refine ⟨_,F.slot_str_join,F.type_str_join,rfl, ?_⟩;intro w A E s M Q vs t r hf h;obtain ⟨v,rfl,r1⟩:=uk r;obtain ⟨a,vs,n,rfl,h1,h2,h3⟩:=r1.lst';obtain ⟨l',e1,e2⟩:=Bt _ MH h3;exact SC.join (l:=l') ⟨_,h1.exact,rfl,n,by rw [←e1]⟩ e2 vm fun t' k=>h _ _ (aw _) (Option.some.inj e9▸ .str _ _)
 ·obtain rfl:ds= [.str y]:=ae hy fun a ha hy=>hV hy▸dU ha
  refine f8 e (fun hm e=> ?_) fun _ e=>f8 e (fun hm e=> ?_) fun _ e=>f8 e (fun hm e=> ?_) fun _ e=>f8 e (fun hm e=> ?_) fun _ e=>f8 e (fun hm e=> ?_) fun _ e=>f8 e (fun hm e=>aH e fun hl e=> ?_) fun _ e=>f8 e (fun hm e=>aH e fun hl e=> ?_) fun _ e=>cg e
  ·exact beq_iff_eq.mp hm▸sh F.slot_str_find F.type_str_find rfl fun t u hf h=>SC.find (h _ _ (aw _) (Option.some.inj e▸ .int _ _))
  ·exact beq_iff_eq.mp hm▸sh F.slot_str_rfind F.type_str_rfind rfl fun t u hf h=>SC.rfind (h _ _ (aw _) (Option.some.inj e▸ .int _ _))
  ·exact beq_iff_eq.mp hm▸sh F.slot_str_startswith F.type_str_startswith rfl fun t u hf h=>SC.startswith (h _ _ (db _) (Option.some.inj e▸ .bool _))
  ·exact beq_iff_eq.mp hm▸sh F.slot_str_endswith F.type_str_endswith rfl fun t u hf h=>SC.endswith (h _ _ (db _) (Option.some.inj e▸ .bool _))
  ·exact beq_iff_eq.mp hm▸sh F.slot_str_count F.type_str_count rfl fun t u hf h=>SC.count (h _ _ (aw _) (Option.some.inj e▸ .int _ _))
  ·exact beq_iff_eq.mp hm▸sh F.slot_str_strip F.type_str_strip rfl fun t u hf h=>SC.stripChars (fun t' k=>h _ _ (aw _) (Option.some.inj e▸ .str _ _)) hl
  ·exact beq_iff_eq.mp hm▸sh F.slot_str_split F.type_str_split rfl fun t u hf h=>y7 hl t u hf (Option.some.inj e▸h)
theorem fj{β:Type}{k m:Str}{v b:β}{r:List (Str×β)}{P:Prop}(e:((k,v)::r).lookup m=some b)(k1:m=k→v=b→P)(k2:r.lookup m=some b→P):P:=Dx e k1 k2
noncomputable def C6(m:Str)(id:String):Prop:=PySem.Slot "str" m id∧typeOf (.builtin id)=pure (.type "method_descriptor")
theorem vL{m:Str}{id:String}(e:iX.lookup m=some id):C6 m id:=by
 refine fj e (fun a b=>a▸b▸⟨F.slot_str_lower,F.type_str_lower⟩) fun e=>fj e (fun a b=>a▸b▸⟨F.slot_str_find,F.type_str_find⟩) fun e=>fj e (fun a b=>a▸b▸⟨F.slot_str_rfind,F.type_str_rfind⟩) fun e=>
  fj e (fun a b=>a▸b▸⟨F.slot_str_startswith,F.type_str_startswith⟩) fun e=>fj e (fun a b=>a▸b▸⟨F.slot_str_endswith,F.type_str_endswith⟩) fun e=>fj e (fun a b=>a▸b▸⟨F.slot_str_count,F.type_str_count⟩) fun e=>
  fj e (fun a b=>a▸b▸⟨F.slot_str_strip,F.type_str_strip⟩) fun e=>fj e (fun a b=>a▸b▸⟨F.slot_str_split,F.type_str_split⟩) fun e=>fj e (fun a b=>a▸b▸⟨F.slot_str_join,F.type_str_join⟩) fun e=>cg e
noncomputable def Ek(lab lab':ag)(h h':Heap)(L:cP):Prop:=∀a,lab a=some L→lab' a=some L∧∀c d x,At h a c d x→c≠ .none→At h' a c d x
section move
variable{h h':Heap}{G G':Addr→Prop}{lab lab':ag}(kr: ∀a c d x,¬Rs G lab a→At h a c d x→c≠ .none→At h' a c d x∧¬Rs G' lab' a)
include kr
theorem sO{L:cP}(f:Ek lab lab' h h' L){v:Value}{l:List D}(x:bZ h G lab L v l):bZ h' G' lab' L v l:=by
 obtain ⟨a,vs,n,e,hl,ha,r⟩:=x;exact ⟨a,vs,n,e,(f a hl).1,(f a hl).2 _ _ _ ha (fun e=>nomatch e),r.mono kr⟩
theorem KK{x:Str}(f:Ek lab lab' h h' (.fld x)){v:Value}{y:FV}(r:cQ h G lab x v y):cQ h' G' lab' x v y:=by
 cases y with
 |d d=>exact aD.mono kr r
 |own l=>exact sO kr f r
theorem j9{x:Str}(f:Ek lab lab' h h' (.loc x))(m:bN lab lab'){v:Value}{y:Loc}(r:bp h G lab x v y):bp h' G' lab' x v y:=by
 cases y with
 |d d=>exact aD.mono kr r
 |own l=>exact sO kr f r
 |ptr=>obtain ⟨a,e,h1⟩:=r;exact ⟨a,e,m a h1⟩
theorem ee{w:World}(f: ∀L,L.ofSlot=true→Ek lab lab' h h' L){σ:Option Slot}(r:bf w h G lab σ):bf w h' G' lab' σ:=by
 cases σ with
 |none=>trivial
 |some σ=>
  cases σ with
  |inst c fs=>
   obtain ⟨a,d,es,n,h1,h2,h3,h4,h5,h6,h7⟩:=r;exact ⟨a,d,es,n,(f _ rfl a h1).1,(f _ rfl d h2).1,(f _ rfl a h1).2 _ _ _ h3 (fun e=>nomatch e),(f _ rfl d h2).2 _ _ _ h4 (fun e=>nomatch e),h5,h6,fun y b e=>let ⟨v,h8,h9⟩:=h7 y b e;⟨v,h8,KK kr (f _ rfl) h9⟩⟩
  |deck cells am=>
   obtain ⟨d,es,n,v,u,h1,h2,h3,h4,h5,h6⟩:=r;exact ⟨d,es,n,v,u,(f _ rfl d h1).1,(f _ rfl d h1).2 _ _ _ h2 (fun e=>nomatch e),h3,h4,sO kr (f _ rfl) h5,h6⟩
end move
structure xb(x:Cx):Prop where
 K:xc x.w x.base
 lim:x.base.NoLimit
 bi: ∃mb,x.base.Ns builtinsNs mb∧∀x:Str,x≠"__name__"→mb x=bootBuiltins x
 mn:o4 x.base
structure AR(A:Around)(outer:List Env)(n:Nat):Prop where
 handled:A.handled=none
 frames:A.frames=some outer
 guards:A.guards=some []
 depth:A.depth+4*n≤590
 units:A.units+300*n≤4600
noncomputable def fV(lab:ag):Prop:=∀a l,lab a=some l→l.ofSlot=true
structure aA(c:Fc)(lab:ag)(s:Shared)(σ':Option Slot)(lab':ag)(s':Shared):Prop where
 core:ch c.x c.G lab' c.outer s'
 slot:bf c.x.w s'.heap c.G lab' σ'
 kept:Kept lab s.heap lab' s'.heap
 mono:σ'.isSome=true→bN lab lab'
 only: ∀a l,lab' a=some l→l.ofSlot=true∧σ'.isSome=true
noncomputable def cZ(x:Cx)(fn:au)(n:Nat):Prop:=
 ∀(c:Fc) (lab:ag) (s:Shared) (f:Addr) (vs:List Value) (as:List V) (σ σ':Option Slot) (r:bH D),
  fn f as σ=some (r,σ')→c.x=x→xb c.x→c.x.base.objs.size≤s.heap.objs.size→AR c.A c.outer n→fV lab→ch c.x c.G lab c.outer s→bf c.x.w s.heap c.G lab σ→cD c s.heap lab vs as→
  ∀(R:Result→Shared→Prop),
   (∀v d lab' s',r= .ok d→aA c lab s σ' lab' s'→ei c s'.heap lab' v d→R (.ok (.ret v)) s')→
   (∀e lab' s',r= .bad→aA c lab s σ' lab' s'→ji c lab s e s'→R (.error e) s')→
   codeAny (model pw c.x.w) c.A (.call (.ref f) ⟨vs,[]⟩) R s
noncomputable def aW(p:cP→Bool)(lab:ag):ag:=fun a=>(lab a).filter p
noncomputable def bY(p:cP→Bool)(G:Addr→Prop)(lab:ag):Addr→Prop:=fun a=>G a∨∃l,lab a=some l∧p l=false
noncomputable def bt(p:cP→Bool)(lab lab':ag):ag:=fun a=>match lab a with
 |some l=>if p l then lab' a else some l
 |none=>lab' a
theorem jO{p:cP→Bool}{lab lab1:ag}{x:Addr}{l:cP}(hq: ∀a l,lab1 a=some l→p l=true)(h:bt p lab lab1 x=some l):(lab x=some l∧p l=false)∨(lab1 x=some l∧p l=true):=by
 unfold bt at h
 cases e:lab x with
 |none=>rw [e] at h;exact .inr ⟨h,hq _ _ h⟩
 |some l'=>
  rw [e] at h;replace h:(if p l'=true then lab1 x else some l')=some l:=h
  cases q:p l' with
  |true=>rw [q] at h;exact .inr ⟨h,hq _ _ h⟩
  |false=>rw [q] at h;obtain rfl:l'=l:=Option.some.inj h;exact .inl ⟨rfl,q⟩
theorem q9{p:cP→Bool}{lab lab1:ag}{a:Addr}{l:cP}(e:lab1 a=some l)(d: ∀l',lab a=some l'→p l'=false→False):bt p lab lab1 a=some l:=by
 unfold bt
 cases q:lab a with
 |none=>exact e
 |some l'=>
  show (if p l'=true then lab1 a else some l')=_
  cases z:p l' with
  |true=>exact e
  |false=>exact (d l' q z).elim
theorem aq{p:cP→Bool}{lab:ag}{a:Addr}{l:cP}:aW p lab a=some l↔lab a=some l∧p l=true:=Option.filter_eq_some_iff
theorem aB{p:cP→Bool}{lab:ag}{a:Addr}(h: ∀l,lab a=some l→p l=false):aW p lab a=none:=by
 unfold aW
 cases e:lab a with
 |none=>rfl
 |some l=>rw [Option.filter_some,h l e];rfl
theorem gt{p:cP→Bool}{G:Addr→Prop}{lab:ag}{a:Addr}:Rs (bY p G lab) (aW p lab) a↔Rs G lab a:=by
 constructor
 ·rintro ((h|⟨l,h,_⟩)|h)
  ·exact .inl h
  ·exact .inr (by rw [h];exact fun e=>nomatch e)
  ·refine .inr fun e=>h ?_
   exact aB fun l e'=>by rw [e] at e';cases e'
 ·rintro (h|h)
  ·exact .inl (.inl h)
  ·obtain ⟨l,e⟩:=Option.ne_none_iff_exists'.mp h
   cases hp:p l with
   |false=>exact .inl (.inr ⟨l,e,hp⟩)
   |true=>exact .inr (by rw [aq.mpr ⟨e,hp⟩];exact fun e=>nomatch e)
theorem fB{p:cP→Bool}{G:Addr→Prop}{lab lab':ag}{a:Addr}:Rs (bY p G lab) lab' a↔Rs G (bt p lab lab') a:=by
 unfold Rs bY bt
 cases e:lab a with
 |none=>simp
 |some l=>
  dsimp only
  cases hp:p l with
  |false=>simp [hp]
  |true=>simp [hp]
theorem dG{x:Cx}{G:Addr→Prop}{lab:ag}{outer:List Env}{s:Shared}{p:cP→Bool}(C:ch x G lab outer s)(hp:p .frame=false):ch x (bY p G lab) (aW p lab) outer s:=
 ⟨C.old,C.os,C.gens,fun a e=>C.res a (gt.mp e),fun env he=>let ⟨q,L,d,y,e,r,z,m⟩:=C.fr env he;⟨q,L,d,y,e,.inl (r.elim .inl fun r=>.inr ⟨_,r,hp⟩),z,m⟩,
  fun a b l h1 h2=>C.inj a b l (aq.mp h1).1 (aq.mp h2).1,fun a h=>aB fun l e=>h.elim (fun g=>by rw [C.disj a g] at e;cases e) fun ⟨l',e',q⟩=>by rw [e] at e';cases e';exact q,C.tab⟩
theorem eY{c:Fc}{lab lab1:ag}{S:St}{s s':Shared}{p:cP→Bool}{σ':Option Slot}(I:Inv c lab S s)(hp: ∀l,l.ofSlot=false→p l=false)
  (P:aA (withG c (bY p c.G lab)) (aW p lab) s σ' lab1 s') (hq: ∀a l,lab1 a=some l→p l=true) (hσ:(∀l,p l=false)∧S.σ=S.σ∨(∀l,l.ofSlot=true→p l=true)∧σ'.isSome=true):
  Inv c (bt p lab lab1) ⟨S.ρ,if (p .sobj) then σ' else S.σ⟩ s'∧Kept lab s.heap (bt p lab lab1) s'.heap∧aV lab (bt p lab lab1)∧(∀{v d},aD s'.heap (Rs (bY p c.G lab) lab1) v d→aD s'.heap (Rs c.G (bt p lab lab1)) v d):=by
 refine bc fun no=> ?_;obtain ⟨C',dQ,k,m,only⟩:=P;refine no ?_;clear no;have qd: ∀a,lab a=none→lab1 a=none→bt p lab lab1 a=none:=fun a e1 e2=>by unfold bt;rw [e1];exact e2
 have iO: ∀a l,lab a=some l→p l=false→bt p lab lab1 a=some l:=fun a l e hl=>by unfold bt;rw [e];dsimp only;rw [hl];rfl
 have kr: ∀a c' d x,¬Rs c.G lab a→At s.heap a c' d x→c'≠ .none→At s'.heap a c' d x∧¬Rs c.G (bt p lab lab1) a:=fun a c' d x n q hc=>by
  have e:aW p lab a=none:=aB fun l e=>absurd (.inr (by rw [e];exact fun e=>nomatch e)) n;obtain ⟨q',e'⟩:=k.at a c' d x e q hc;refine ⟨q',fun z=> ?_⟩;rcases fB.mpr z with (g|⟨l,e1,_⟩)|z
  ·exact n (.inl g)
  ·exact n (.inr (by rw [e1];exact fun e=>nomatch e))
  ·exact z e'
 have vo: ∀L,p L=false→Ek lab (bt p lab lab1) s.heap s'.heap L:=fun L hL a e=>⟨iO a L e hL,fun c' d x q hc=>(k.at a c' d x (aB fun l e'=>by rw [e] at e';cases e';exact hL) q hc).1⟩;have sm:bN lab (bt p lab lab1):=fun a e=>by
  cases hs:p .sobj with
  |false=>exact iO a _ e hs
  |true=>
   rcases hσ with ⟨h,_⟩|⟨_,h⟩
   ·rw [h] at hs;cases hs
   ·have:=m h a (aq.mpr ⟨e,hs⟩)
    unfold bt;rw [e];dsimp only;rw [hs];exact this
 have rb: ∀{v d},aD s'.heap (Rs (bY p c.G lab) lab1) v d→aD s'.heap (Rs c.G (bt p lab lab1)) v d:=fun r=>r.mono fun a c' d x n q _=>⟨q,fun z=>n (fB.mpr z)⟩;have nf:p .frame=false:=hp _ rfl;refine ⟨⟨⟨C'.old,C'.os,C'.gens,fun a e=>C'.res a (fB.mpr e),fun env he=> ?_,fun a b l h1 h2=> ?_,fun a g=>qd a (I.core.disj a g) (C'.disj a (.inl g)),C'.tab⟩,iO _ _ I.isFrame nf, ?_,fun x l e q=> ?_,fun hc x e=> ?_, ?_⟩, ?_,⟨?_,sm⟩,rb⟩
 ·refine bc fun no=> ?_
  obtain ⟨q,L,d,y,e,r,z,mm⟩:=C'.fr env he;obtain ⟨_,L',d',y',e',r',_⟩:=I.core.fr env he;refine no ?_;clear no;rw [e] at e';cases e';exact ⟨q,L,d,y,e,r'.imp id fun r=>iO _ _ r nf,z,mm⟩
 ·have key: ∀x,bt p lab lab1 x=some l→(lab x=some l∧p l=false)∨(lab1 x=some l∧p l=true):=fun x=>jO hq
  exact (key a h1).elim (fun x=>(key b h2).elim (fun y=>I.core.inj _ _ _ x.1 y.1) fun y=>D4 (x.2.symm.trans y.2)) fun x=>(key b h2).elim (fun y=>D4 (y.2.symm.trans x.2)) fun y=>C'.inj _ _ _ x.1 y.1
 ·refine bc fun no=> ?_
  obtain ⟨cl,es,n,h1,h2,h3,h4⟩:=I.frame;refine no ?_;clear no;exact ⟨cl,es,n,(vo _ nf _ I.isFrame).2 _ _ _ h1 h2,h2,h3,fun x l e q=>let ⟨v,h5,h6⟩:=h4 x l e q;⟨v,h5,j9 kr (vo _ (hp _ rfl)) sm h6⟩⟩
 ·refine bc fun no=> ?_
  obtain ⟨h1,a,v,h2,h3,h4,h5,h6⟩:=I.cells x l e q;refine no ?_;clear no;refine ⟨h1,a,v,h2,h3,fun hc=>iO _ _ (h4 hc) (hp _ rfl), ?_,j9 kr (vo _ (hp _ rfl)) sm h6⟩
  cases lh:c.comp with
  |true=>exact (k.at a _ _ _ (aB fun l e'=>by rw [I.core.disj a (h3 lh)] at e';cases e') h5 (fun e=>nomatch e)).1
  |false=>exact (vo _ (hp _ rfl) a (h4 lh)).2 _ _ _ h5 (fun e=>nomatch e)
 ·refine bc fun no=> ?_
  obtain ⟨a,v,h1,h2,h3⟩:=I.bare hc x e;refine no ?_;clear no;exact ⟨a,v,h1,iO _ _ h2 (hp _ rfl),(vo _ (hp _ rfl) a h2).2 _ _ _ h3 (fun e=>nomatch e)⟩
 ·dsimp only
  rcases hσ with ⟨h,_⟩|⟨h,_⟩
  ·rw [if_neg (by rw [h];simp)]
   exact ee kr (fun L _=>vo L (h L)) I.slot
  ·rw [if_pos (h _ rfl)]
   refine ee (fun a c' d x n q _=>⟨q,fun z=>n (fB.mpr z)⟩) (fun L hL a e=>⟨?_,fun _ _ _ q _=>q⟩) dQ;exact q9 e fun l' e' hn=>Ph (e.symm.trans (C'.disj a (.inr ⟨l',e',hn⟩)))
 ·intro a o e q hc
  obtain ⟨q',e'⟩:=k a o (aB fun l e'=>by rw [e] at e';cases e') q hc;exact ⟨q',qd a e e'⟩
 ·intro a x e
  exact (jO hq e).elim (fun q=>q.1) fun q=>nomatch (only _ _ q.1).1
theorem bx{c:Fc}{lab:ag}{S:St}{s:Shared}(I:Inv c lab S s):c.x.base.objs.size≤s.heap.objs.size:=by
 obtain ⟨cl,es,n,h1,_⟩:=I.frame;exact Nat.le_trans (I.core.res _ (.inr (by rw [I.isFrame];exact fun e=>nomatch e))).1 (Nat.le_of_lt h1.lt)
structure fW(x:Cx)(n k:Nat)(c:Fc):Prop where
 cx:c.x=x
 ok:dq c
 depth:c.A.depth+2+4*n≤590
 units:c.A.units+30+4*k+300*n≤4600
theorem fW.xok{x:Cx}{n k:Nat}{c:Fc}(H:fW x n k c):xb c.x:=⟨H.ok.K,H.ok.lim,H.ok.bi,H.ok.mn⟩
theorem fW.aok{x:Cx}{n k:Nat}{c:Fc}(H:fW x n k c):AR c.A c.outer n:=⟨H.ok.handled,H.ok.frames,H.ok.guards,by have:=H.depth;lia,by have:=H.units;lia⟩
theorem mI{c:Fc}{G':Addr→Prop}{h:Heap}{lab lab':ag}(hr: ∀a,Rs G' lab' a→Rs c.G lab a){vs:List Value}{as:List V}(m:as.any V.isPtr=true→bN lab lab')(r:cD c h lab vs as):cD (withG c G') h lab' vs as:=by
 induction r with
 |nil=>exact .nil
 |cons a v r q r1 r2 ih=>
  refine .cons _ _ _ _ ?_ (ih fun e=>m ((Bool.or_eq_true _ _).mpr (.inr e)))
  cases v with
  |d d=>exact aD.mono (fun a c d x n q _=>⟨q,fun z=>n (hr a z)⟩) r1
  |ptr=>
   obtain ⟨b,e,hb⟩:=r1;exact ⟨b,e,m rfl b hb⟩
theorem cD.toG{c c':Fc}(e:c.G=c'.G){h:Heap}{lab:ag}{vs:List Value}{as:List V}(r:cD c h lab vs as):cD c' h lab vs as:=by
 induction r with
 |nil=>exact .nil
 |cons a v r q r1 r2 ih=>exact .cons a v r q (by cases v with|d d=>unfold dc at r1 ⊢;rw [←e];exact r1|ptr=>exact r1) ih
section
variable{x:Cx}{fn:au}{n k:Nat}(hF:cZ x fn n){c:Fc}(H:fW x n k c)
include hF H
theorem oo{f:Addr}{as:List V}{vs:List Value}{S S':St}{r:bH V}{lab:ag}{s:Shared}(hf:dL fn f as S=some (r,S'))(I:Inv c lab S s)(rv:cD c s.heap lab vs as)
  {Q:Value→Shared→Prop} {E:Value→Shared→Prop} (hQ:ck c lab s S' r (dc c) Q) (hE:dl c lab s S' r E):wpAny (model pw c.x.w) c.A (call (.ref f) vs) Q E s:=by
 refine iP hf (fun hp hf=>ae hf fun sl hσ hf=>ae hf fun q nc hf=>ae hf fun d hd hf=>ae hf fun dQ iN hf=> ?_) fun hp hf=>ae hf fun q nc hf=>aH hf fun iN hf=> ?_
 ·have hs: ∀l:cP,l.ofSlot=false→(fun l:cP=>l.ofSlot) l=false:=fun l h=>h
  refine wpAny_call (hF (withG c (bY cP.ofSlot c.G lab)) (aW cP.ofSlot lab) s f vs as (some sl) (some dQ) (.ok d) (nc.trans (congrArg some (Prod.ext (lI hd) iN))) H.cx H.xok (bx (c:=c) I) H.aok (fun a l e=>(aq.mp e).2) (dG I.core rfl) ?_ (mI (fun a=>gt.mp) (fun _ a e=>aq.mpr ⟨e,rfl⟩) rv) _ ?_ ?_)
  ·have:=I.slot
   rw [hσ] at this;exact ee (fun a c' d x nn q _=>⟨q,fun z=>nn (gt.mp z)⟩) (fun L hL a e=>⟨aq.mpr ⟨e,hL⟩,fun _ _ _ q _=>q⟩) this
  ·intro v d' lab1 s1 hr P R
   refine bc fun no=> ?_;obtain rfl:d=d':=by injection hr
   obtain ⟨I',k',m',rb⟩:=eY I hs P (fun a l e=>(P.only a l e).1) (.inr ⟨fun l h=>h,rfl⟩);refine no ?_;clear no;exact dR hQ hf I' k' m' (rb R)
  ·exact fun e lab1 s1 hr=>nomatch hr
 ·rw [Bool.not_eq_true] at hp
  refine bc fun no=> ?_;obtain ⟨o,σ⟩:=q;obtain rfl:σ=none:=Option.isNone_iff_eq_none.mp iN;refine no ?_;clear no;have nf: ∀l:cP,l.ofSlot=false→(fun _:cP=>false) l=false:=fun _ _=>rfl;have ex: ∀a,aW (fun _=>false) lab a=none:=fun a=>aB fun _ _=>rfl;have Dw: ∀{lab1:ag} {s1:Shared},aA (withG c (bY (fun _=>false) c.G lab)) (aW (fun _=>false) lab) s none lab1 s1→∀a l,lab1 a=some l→False:=fun P a l e=>nomatch (P.only a l e).2;refine wpAny_call (hF (withG c (bY (fun _=>false) c.G lab)) (aW (fun _=>false) lab) s f vs as none none o nc H.cx H.xok (bx (c:=c) I) H.aok (fun a l e=>by rw [ex] at e;exact nomatch e) (dG I.core rfl) trivial (mI (fun a=>gt.mp) (fun e=>by rw [hp] at e;exact nomatch e) rv) _ ?_ ?_)
  ·intro v d lab1 s1 hr P R
   refine bc fun no=> ?_;subst hr;obtain ⟨I',k',m',rb⟩:=eY I nf P (fun a l e=>(Dw P a l e).elim) (.inl ⟨fun _=>rfl,rfl⟩);refine no ?_;clear no;exact dR hQ hf I' k' m' (rb R)
  ·intro e lab1 s1 hr P F
   refine bc fun no=> ?_;subst hr;obtain ⟨I',k',m',rb⟩:=eY I nf P (fun a l e=>(Dw P a l e).elim) (.inl ⟨fun _=>rfl,rfl⟩);refine no ?_;clear no;exact fX hf fun e1 e2=>hE e _ s1 e1 (e2▸I') k' (ji.back (c:=c) (lab:=lab) (s:=s) (lab1:=aW (fun _=>false) lab) (s1:=s) F (fun a o e q _=>⟨⟨o.slots,q,fun _=>rfl⟩,ex a⟩))
end
noncomputable def lQ(K:Frag)(p:Addr×ClsRec):Bool:=makesIn K p.1&&findIn K (.ref p.1) "__init__"==some (some (.ref p.2.init))&&typeIn K (.ref p.2.init)==some (.type "function")&&keepIn K (.ref p.1)&&
 findIn K (.ref p.1) "__getattribute__"==some (some (.builtin "object.__getattribute__"))&&findIn K (.ref p.1) "__getattr__"==some none&&
 p.2.meths.all fun m=>findIn K (.ref p.1) m.1==some (some (.ref m.2))&&typeIn K (.ref m.2)==some (.type "function")&&keepIn K (.ref m.2)
theorem oY(P:Params):cw.all (lQ (KF P))=true:=by
 unfold KF
 kernel_rfl
theorem zS(P:Params):lC.all (fun p=>keepIn (KF P) (.ref p.1))=true:=by
 unfold KF
 kernel_rfl
theorem zH(P:Params):keepIn (KF P) (.ref 857)=true:=by unfold KF;kernel_rfl
noncomputable def kg(fn:au):Prop:=∀(P:Params) a as σ o,fn a as σ=some o→keepIn (KF P) (.ref a)=true
theorem zj(n:Nat):kg (run n):=by
 cases n with
 |zero=>exact fun P a as σ o e=>cg e
 |succ n=>exact fun P a as σ o e=>iP e (fun ha _=>ha▸zH P) fun _ e=>ae e fun F hl _=>d7 (zS P) hl
theorem jc(fs:List (Str×FV))(x:Str):(fs.map fun p=>(p.1,gu p.2)).lookup x= (fs.lookup x).map gu:=by
 induction fs with
 |nil=>rfl
 |cons p r ih=>
  rw [List.map_cons,List.lookup_cons,List.lookup_cons]
  cases x==p.1 with
  |true=>rfl
  |false=>exact ih
theorem qp(A:Around)(C:Addr)(vals:List Value):A.under (.builtin "type.__call__" ⟨.ref C::vals,[]⟩)= {A with depth:=A.depth+1,units:=A.units+1}:=by
 obtain ⟨hd,d,fr,gs,u⟩:=A;have h1:(Code.builtin "type.__call__" ⟨.ref C::vals,[]⟩).weight=1:=rfl;have h2:(Code.builtin "type.__call__" ⟨.ref C::vals,[]⟩).envs= []:=rfl;have h3:(Code.builtin "type.__call__" ⟨.ref C::vals,[]⟩).guards= []:=by
  have:(Code.builtin "type.__call__" ⟨.ref C::vals,[]⟩).isGuard=false:=by show guardIds.contains "type.__call__"=false;decide+kernel
  simp [Code.guards,this]
 have h4:(Code.builtin "type.__call__" ⟨.ref C::vals,[]⟩).cUnits=1:=rfl;simp only [Around.under,h1,h2,h3,h4,pushEnvs,pushGuards]
theorem uS{x:Cx}{fn:au}{n k:Nat}(hF:cZ x fn n){c:Fc}(H:fW x n k c){C:Addr}{cr:ClsRec}(hC:cw.lookup C=some cr){as:List V}{vs:List Value}{fs:List (Str×FV)}(hp:as.any V.isPtr=false)
  {S:St} {lab:ag} {s:Shared} (nc:fn cr.init (.ptr::as) (some (.inst C []))=some (.ok .none,some (.inst C fs))) (I:Inv c lab S s) (rv:cD c s.heap lab vs as) {Q:Value→Shared→Prop} {E:Value→Shared→Prop}
  (h: ∀x lab1 s1,aA (withG c (Rs c.G lab)) (fun _=>none) s (some (.inst C fs)) lab1 s1→lab1 x=some .sobj→Q (.ref x) s1):wpAny (model pw c.x.w) c.A (call (.ref C) vs) Q E s:=by
 have F:=d7 (oY c.x.w.params) hC;simp only [lQ,Bool.and_eq_true,beq_iff_eq] at F;obtain ⟨⟨⟨⟨⟨⟨f1,f2⟩,f3⟩,f4⟩,f5⟩,f6⟩,f7⟩:=F;have X:=I.kf H.ok;have I0:=I;have hb:=bx I;obtain ⟨hh,g,d,t,os⟩:=s;dsimp only at X hb rv h
 let dx:=hh.objs.size
 let xa:=hh.objs.size+1
 let h2:Heap:=(hh.push emptyDict).push (instObj C hh.objs.size)
 have k2: ∀b o,hh.get? b=some o→h2.get? b=some o:=fun b o e=>Heap.get?_push_of_some _ (Heap.get?_push_of_some _ e);have AM:h2.get? dx=some emptyDict:=Heap.get?_push_of_some _ (Heap.get?_push_size _ rfl);have Pu:h2.get? xa=some (instObj C dx):=by
  have:=Heap.get?_push_size (hh.push emptyDict) (o:=instObj C hh.objs.size) rfl
  rwa [Heap.size_push] at this
 let be:ag:=fun a=>if a=xa then some .sobj else if a=dx then some .sdict else none
 have l_x:be xa=some .sobj:=if_pos rfl;have l_d:be dx=some .sdict:=by show (if dx=xa then _ else _)=_;rw [if_neg (by show ¬hh.objs.size=hh.objs.size+1;lia),if_pos rfl]
 have l_lt: ∀a,a<hh.objs.size→be a=none:=fun a ha=>by
  show (if a=xa then _ else _)=_;rw [if_neg (by show ¬a=hh.objs.size+1;lia),if_neg (by show ¬a=hh.objs.size;lia)]
 have l_or: ∀a l,be a=some l→(a=xa∧l= .sobj)∨(a=dx∧l= .sdict):=fun a l e=>by
  by_cases h1:a=xa
  ·exact .inl ⟨h1,Option.some.inj (e.symm.trans (if_pos h1))⟩
  ·by_cases h2:a=dx
   ·exact .inr ⟨h2,Option.some.inj (e.symm.trans ((congrArg be h2).trans l_d))⟩
   ·have:be a=none:=by show (if a=xa then _ else if a=dx then _ else _)=_;rw [if_neg h1,if_neg h2]
    exact nomatch this.symm.trans e
 have SK: ∀a,Rs c.G lab a→a<hh.objs.size:=fun a g=>by obtain ⟨_,_,_,_,q,_⟩:=I.core.res a g;exact q.lt
 have kp:Keeps (⟨hh,g,d,t,os⟩:Shared) ⟨h2,g,d,t,os⟩:=⟨h2,t,rfl,k2⟩;have IC:=I.core.keeps kp;have C2:ch c.x (Rs c.G lab) be c.outer ⟨h2,g,d,t,os⟩:=by
  refine ⟨IC.old,IC.os,IC.gens,fun a e=> ?_,fun env he=> ?_,fun a b l h1 h2=> ?_,fun a e=>l_lt a (SK a e),IC.tab⟩
  ·rcases e with e|e
   ·exact IC.res a e
   ·obtain ⟨l,e⟩:=Option.ne_none_iff_exists'.mp e
    rcases l_or a l e with ⟨rfl,_⟩|⟨rfl,_⟩
    ·exact ⟨Nat.le_trans hb (Nat.le_succ _),_,_,_,.of Pu,fun e=>nomatch e⟩
    ·exact ⟨hb,_,_,_,.of AM,fun e=>nomatch e⟩
  ·obtain ⟨q,L,dd,y,e,r,z,m⟩:=IC.fr env he
   exact ⟨q,L,dd,y,e,.inl (r.imp id fun r=>by rw [r];exact fun e=>nomatch e),z,m⟩
  ·exact (l_or a l h1).elim (fun p=>(l_or b l h2).elim (fun q=>p.1.trans q.1.symm) fun q=>nomatch p.2.symm.trans q.2) fun p=>(l_or b l h2).elim (fun q=>nomatch p.2.symm.trans q.2) fun q=>p.1.trans q.1.symm
 refine wpAny_call (make_core (makes_of X f1) (looks_findIn X f2) (fun self=>bind_fn X self f3) (.inl rfl) ?_);rw [qp];refine hF {withG c (Rs c.G lab) with A:={c.A with depth:=c.A.depth+1,units:=c.A.units+1}} be ⟨h2,g,d,t,os⟩ cr.init (.ref xa::vs) (.ptr::as) (some (.inst C [])) (some (.inst C fs)) (.ok .none) nc H.cx H.xok (bx (c:=c) (I.keeps kp))
  ⟨H.ok.handled,H.ok.frames,H.ok.guards,by have:=H.depth;show c.A.depth+1+4*n≤590;lia,by have:=H.units;show c.A.units+1+300*n≤4600;lia⟩
  (fun a l e=>(l_or a l e).elim (fun q=>q.2▸rfl) fun q=>q.2▸rfl) C2 ?_ ?_ _ ?_ ?_
 ·exact ⟨xa,dx,#[],0,l_x,l_d,.of Pu,.of AM,(fun e he=>by simp at he),⟨Nat.le_refl _,fun f _=>rfl⟩,fun f y e=>by cases e⟩
 ·refine .cons _ _ _ _ ⟨xa,rfl,l_x⟩ ?_
  have:cD (withG c (Rs c.G lab)) h2 be vs as:=by
   clear nc h hF
   induction rv with
   |nil=>exact .nil
   |cons a v r q r1 r2 ih=>
    rw [List.any_cons,Bool.or_eq_false_iff] at hp;refine .cons _ _ _ _ ?_ (ih hp.2)
    cases v with
    |ptr=>exact nomatch hp.1
    |d d=>
     show aD h2 (Rs (Rs c.G lab) be) a d;refine aD.mono (h:=hh) (M:=Rs c.G lab) (fun a c' dd y nn q _=>⟨q.keep k2,fun z=> ?_⟩) r1;rcases z with z|z
     ·exact nn z
     ·rw [l_lt a q.lt] at z;exact z rfl
  refine cD.toG ?_ this;rfl
 ·intro v dd lab1 s1 hr P R
  obtain rfl:D.none=dd:=by injection hr
  obtain rfl:v=_:=aD.inv R;refine ⟨rfl, ?_⟩;refine h xa lab1 s1 ⟨P.core,P.slot,fun a o e q hc=> ?_,(fun _ a e=>nomatch e),P.only⟩ (P.mono rfl xa l_x);exact P.kept a o (l_lt a (Heap.lt_size q)) (k2 _ _ q) hc
 ·exact fun e lab1 s1 hr=>nomatch hr
theorem fS{G:Addr→Prop}{lab:ag}:bY (fun _=>false) G lab=Rs G lab:=by
 funext a
 refine propext ⟨fun h=> ?_,fun h=> ?_⟩
 ·rcases h with h|⟨l,h,_⟩
  ·exact .inl h
  ·exact .inr (by rw [h];exact fun e=>nomatch e)
 ·rcases h with h|h
  ·exact .inl h
  ·obtain ⟨l,e⟩:=Option.ne_none_iff_exists'.mp h
   exact .inr ⟨l,e,rfl⟩
theorem ku{lab:ag}:aW (fun _=>false) lab=fun _=>none:=funext fun a=>aB fun _ _=>rfl
theorem aA.dropAll{c:Fc}{s s1:Shared}{σ:Option Slot}{lab1:ag}(P:aA c (fun _=>none) s σ lab1 s1):aA c (fun _=>none) s none (fun _=>none) s1:=by
 refine ⟨⟨P.core.old,P.core.os,P.core.gens,fun a e=> ?_,fun env he=> ?_,(fun _ _ _ e=>nomatch e),fun _ _=>rfl,P.core.tab⟩,trivial,fun a o e q hc=>⟨(P.kept a o rfl q hc).1,rfl⟩,(fun e=>nomatch e),(fun _ _ e=>nomatch e)⟩
 ·rcases e with e|e
  ·exact P.core.res a (.inl e)
  ·exact (e rfl).elim
 ·refine bc fun no=> ?_
  obtain ⟨q,L,d,y,e,r,z,m⟩:=P.core.fr env he;refine no ?_;clear no;exact ⟨q,L,d,y,e,r.elim .inl (fun r=>absurd (P.only _ _ r).1 (by decide)),z,m⟩
theorem rH{x:Cx}{G:Addr→Prop}{outer:List Env}{s:Shared}{lab:ag}{C xa:Addr}{fs:List (Str×FV)}(K:ch x G lab outer s)(sl:bf x.w s.heap G lab (some (.inst C fs)))(hx:lab xa=some .sobj):
  aD s.heap (Rs G fun _=>none) (.ref xa) (.inst C (fs.map fun p=>(p.1,gu p.2))):=by
 obtain ⟨x',dx,es,n,h1,h2,h3,h4,h5,h6,h7⟩:=sl;obtain rfl:xa=x':=K.inj _ _ _ hx h1;have ng: ∀a l,lab a=some l→¬Rs G (fun _=>none) a:=fun a l e z=>by
  rcases z with z|z
  ·rw [K.disj a z] at e;cases e
  ·exact z rfl
 have less: ∀{v d},aD s.heap (Rs G lab) v d→aD s.heap (Rs G fun _=>none) v d:=fun r=>r.mono fun a _ _ _ n q _=>⟨q,fun z=>n (z.imp id fun z=>(z rfl).elim)⟩;have KO: ∀{v d},an s.heap (Rs G lab) v d→an s.heap (Rs G fun _=>none) v d:=fun r=>r.mono fun a _ _ _ n q _=>⟨q,fun z=>n (z.imp id fun z=>(z rfl).elim)⟩;refine .inst xa C dx (nsFind es) (fun f=>(nsFind es f).getD .none) _ es n h3 (ng _ _ h1) h4 h5 (fun _=>rfl) (ng _ _ h2) (fun f=>⟨fun y e=> ?_,fun e=> ?_⟩) (fun f y e=> ?_)
 ·rw [jc] at e
  obtain ⟨y',e',rfl⟩:=Option.map_eq_some_iff.mp e;obtain ⟨v,e1,_⟩:=h7 f y' e';rw [e1];rfl
 ·rw [jc,Option.map_eq_none_iff] at e
  exact h6.2 f e
 ·rw [jc] at e
  obtain ⟨y',e',rfl⟩:=Option.map_eq_some_iff.mp e;obtain ⟨v,e1,r⟩:=h7 f y' e';rw [e1];show aD _ _ v _
  cases y' with
  |d d=>exact less r
  |own l=>
   obtain ⟨a,vs,m,rfl,hl,ha,r⟩:=r;exact .lst a vs l m ha (ng _ _ hl) (KO r)
section
variable{x:Cx}{fn:au}{n k:Nat}(hF:cZ x fn n){c:Fc}(H:fW x n k c)
include hF H
theorem oz{lab lab1:ag}{S:St}{s s1:Shared}{σ:Option Slot}(I:Inv c lab S s)(P:aA (withG c (Rs c.G lab)) (fun _=>none) s σ lab1 s1):
  ∃lab',Inv c lab' S s1∧Kept lab s.heap lab' s1.heap∧aV lab lab'∧∀{v d},aD s1.heap (Rs (Rs c.G lab) fun _=>none) v d→aD s1.heap (Rs c.G lab') v d:=by
 have P':aA (withG c (bY (fun _=>false) c.G lab)) (aW (fun _=>false) lab) s none (fun _=>none) s1:=by
  rw [fS,ku];exact P.dropAll
 refine bc fun no=> ?_;obtain ⟨I',k',m',rb⟩:=eY I (fun _ _=>rfl) P' (fun a l e=>nomatch e) (.inl ⟨fun _=>rfl,rfl⟩);refine no ?_;clear no;refine ⟨_,I',k',m',fun r=>rb ?_⟩;rw [fS];exact r
theorem t9{C:Addr}{cr:ClsRec}(hC:cw.lookup C=some cr){as:List V}{vs:List Value}{S S':St}{r:bH V}{lab:ag}{s:Shared}(hf:fz fn C cr.init as S=some (r,S'))(I:Inv c lab S s)(rv:cD c s.heap lab vs as)
  {Q:Value→Shared→Prop} {E:Value→Shared→Prop} (hQ:ck c lab s S' r (dc c) Q):wpAny (model pw c.x.w) c.A (call (.ref C) vs) Q E s:=by
 refine iP hf (fun _ hf=>cg hf) fun hp hf=>ae hf fun q nc hf=>ae hf fun fs MZ hf=> ?_;refine uS hF H hC (Bool.not_eq_true _ |>.mp hp) (nc.trans (congrArg some (oj MZ))) I rv fun xa lab1 s1 P hx=> ?_;obtain ⟨lab',I',k',m',rb⟩:=oz hF H I P;exact dR hQ hf I' k' m' (rb (rH P.core P.slot hx))
theorem z8{K:kg fn}{f:D}{as:List V}{vs:List Value}{fv:Value}{S S':St}{r:bH V}{lab:ag}{s:Shared}(hf:ux fn f as S=some (r,S'))(I:Inv c lab S s)(rf:ei c s.heap lab fv f)(rv:cD c s.heap lab vs as)
  {Q:Value→Shared→Prop} {E:Value→Shared→Prop} (hQ:ck c lab s S' r (dc c) Q) (hE:dl c lab s S' r E):wpAny (model pw c.x.w) c.A (call fv vs) Q E s:=by
 have O:=H.ok;refine ae hf fun w hw hf=> ?_;refine bc fun no=> ?_;obtain rfl:=iv hw;obtain rfl:fv=w:=aD.val' rf;refine no ?_;clear no
 cases fv with
 |ref a=>exact du hf (fun hC hf=>oo hF H hf I rv hQ hE) fun cr hC hf=>t9 hF H hC hf I rv hQ
 |builtin id=>exact sk hf fun d hd hf=>ae hd fun ds Ax hd=>FR hd (rv.ds Ax) I.fresh O.guards (Nat.le_trans O.units (by decide)) fun v s' K R=>dR hQ hf (I.keeps K) (.of_keeps (al K)) (.refl _) R
 |type T=>
  refine sk hf fun d hd hf=>ae hd fun ds Ax hd=>EP hd (rv.ds Ax) I.fresh (fun a h=> ?_) O.handled fun v s' K R=>dR hQ hf (I.keeps K) (.of_keeps (al K)) (.refl _) R;refine bc fun no=> ?_;obtain ⟨_,_,_,_,⟨sl,e,_⟩,_⟩:=I.core.res a h;refine no ?_;clear no;exact ⟨_,e⟩
 |_=>exact cg hf
end
theorem uc{fn:au}(K:kg fn){f:D}{as:List V}{S:St}{o:bH V×St}(hf:ux fn f as S=some o)(P:Params):(∃a,f= .val (.ref a)∧keepIn (KF P) (.ref a)=true)∨(∃id,f= .val (.builtin id))∨∃T,f= .val (.type T):=by
 refine ae hf fun w hw hf=> ?_
 cases w with
 |ref a=>
  refine .inl ⟨a,iv hw,du hf (fun hC hf=> ?_) fun cr hC hf=> ?_⟩
  ·exact iP hf (fun _ hf=>ae hf fun sl hσ hf=>ae hf fun q nc hf=>K P _ _ _ _ nc) fun _ hf=>ae hf fun q nc hf=>K P _ _ _ _ nc
  ·have F:=d7 (oY P) hC
   simp only [lQ,Bool.and_eq_true,beq_iff_eq] at F;exact F.1.1.1.2
 |builtin id=>exact .inr (.inl ⟨id,iv hw⟩)
 |type T=>exact .inr (.inr ⟨T,iv hw⟩)
 |_=>exact cg hf
noncomputable def lS(M:Model)(f:Value)(h:Heap):Prop:=∃k,(k=Keeper.frame∨k=Keeper.machine∨k=Keeper.boundFrame)∧Looks M h (keeperOf f) k
theorem cO{M:Model}{K:Frag}{f:Value}{h:Heap}(X:K.In h)(hk:keepIn K f=true):lS M f h:=keeps_K hk h X
theorem mP{M:Model}{id:String}{h:Heap}:lS M (.builtin id) h:=⟨.machine,.inr (.inl rfl),Looks.of_pure rfl⟩
theorem tO{M:Model}{id:String}{h:Heap}:lS M (.type id) h:=⟨.machine,.inr (.inl rfl),Looks.of_pure rfl⟩
theorem bG{M:Model}{A:Around}{E:Value→Shared→Prop}{s:Shared}{env:Env}{pos:Pos}{f:Value}{first:List Value}{args:List Expr}{Q:Value→Shared→Prop}(hp:args.all aE=true)
  (h:wpAny M A (spliced (backTo pos (starEach args env))) (fun vs s₁=>lS M f s₁.heap∧wpAny M A (call f (first++vs)) Q E s₁) E s):wpAny M A (callWith pos f first (backTo pos (starEach args env)) []) Q E s:=
 callWith_of (P:=lS M f) (by rw [dg pos hp];rfl) (fun _ p=>p) (eI (dg pos hp) h)
theorem dD(P:Params){C f:Addr}{m:Str}(h:bT C m=some f):findIn (KF P) (.ref C) "__getattribute__"=some (some (.builtin "object.__getattribute__"))∧findIn (KF P) (.ref C) "__getattr__"=some none∧
  findIn (KF P) (.ref C) m=some (some (.ref f))∧typeIn (KF P) (.ref f)=some (.type "function")∧keepIn (KF P) (.ref f)=true:=by
 unfold bT at h;refine bc fun no=> ?_;obtain ⟨cr,hC,hm⟩:=Option.bind_eq_some_iff.mp h;have F:=d7 (oY P) hC;simp only [lQ,Bool.and_eq_true,beq_iff_eq] at F;obtain ⟨⟨⟨⟨⟨⟨f1,f2⟩,f3⟩,f4⟩,f5⟩,f6⟩,f7⟩:=F;refine no ?_;clear no;have G:=pi f7 hm;simp only [Bool.and_eq_true,beq_iff_eq] at G;exact ⟨f5,f6,G.1.1,G.1.2,G.2⟩
section
variable{c:Fc}{lab:ag}{S:St}{s:Shared}
theorem qP(O:dq c)(I:Inv c lab S s){C x dx f:Addr}{m:Str}(hm:bT C m=some f)(h1:At s.heap x (.ref C) (some dx) .plain){es:Array DictEntry}{n:Nat}(h2:At s.heap dx (.type "dict") none (.dict es n))(h3:StrKeys es)
  (hv:nsFind es m=none) {A:Around} {pl:Sem Bool} {Q:Value×List Value→Shared→Prop} {E:Value→Shared→Prop} (h:Q (.ref f,[.ref x]) s):wpAny (model pw c.x.w) A (getMethod (.ref x) m pl) Q E s:=by
 refine bc fun no=> ?_;obtain ⟨f1,f2,f3,f4,f5⟩:=dD c.x.w.params hm;refine no ?_;clear no;refine method_fn (od:=some ⟨.type "dict",none,.dict es n,#[]⟩) (I.kf O) ⟨h1.exact,rfl,rfl,h2.exact⟩ f1 f2 f3 f4 ?_ h;unfold shadowIn;dsimp only;rw [iH h3,hv];rfl
end
section
variable{P:Fc→Prop}{r:ba}(R:aY P r){x:Cx}{fn:au}{n k:Nat}(hF:cZ x fn n)(hK:kg fn){c:Fc}{ns:ab}(hP:P c)(H:fW x n k c)(hN:aT c ns)
include R hF hK hP H hN
omit R hF hK hP H hN in
theorem uT{C:Addr}{b:Bool}{m:Str}{S S':St}{g:bH (Option Addr)}{P:Prop}(h:pW C b m S=some (g,S'))(k: ∀f,bT C m=some f→b=true→g= .ok (some f)→S'=S→P):P:=
 aH h fun h1 h=>gN h1 fun h2 h3=>let ⟨f,hf⟩:=Option.isSome_iff_exists.mp h2;fX h fun e1 e2=>k f hf h3 (hf▸e1) e2
omit R hF hK hP H hN in
theorem mN{v:V}{m:Str}{S S':St}{g:bH (Option Addr)}{P:Prop}(h:jv v m S=some (g,S'))(k1: ∀x id,v= .d (.str x)→iX.lookup m=some id→g= .ok none→S'=S→P)
  (k2: ∀c fs f,v= .d (.inst c fs)→bT c m=some f→fs.lookup m=none→g= .ok (some f)→S'=S→P) (k3: ∀sl q f,v= .ptr→S.σ=some sl→oG sl=some q→bT q.1 m=some f→q.2.lookup m=none→g= .ok (some f)→S'=S→P):P:=
 du h (fun hv h=>ae h fun sl hσ h=>ae h fun q hq h=>uT h fun f hf hb e1 e2=>k3 sl q f (xX hv) hσ hq hf (Option.isNone_iff_eq_none.mp hb) e1 e2) fun d hv h=>
  du h (fun _ h=>ae h fun q hq h=>uT h fun f hf hb e1 e2=>k2 q.1 q.2 f ((nH hv).trans (congrArg _ (pD hq))) hf (Option.isNone_iff_eq_none.mp hb) e1 e2) fun x hx h=>
   aH h fun h1 h=>let ⟨id,Eb⟩:=Option.isSome_iff_exists.mp h1;fX h fun e1 e2=>k1 x id ((nH hv).trans (congrArg _ (hV hx))) Eb e1 e2
theorem ww{o:Expr}{m:Str}{ap p:Pos}{args:List Expr}(hl:cF (.Attribute o m ap) p=true)(EC:args.length≤8)(hp:args.all aE=true):gL c (eval (.Call (.Attribute o m ap) args [] p) c.env) (sU fn r ns o m args) (dc c):=by
 intro S lab s res S' hf I Q E hQ hE;have O:=H.ok;refine d4 hl EC hp ((R.ev c ns hP hN o).step hf I hE fun ov v S1 lab1 s1 h1 I1 k1 m1 r1 dm=>fun pl=> ?_);refine nd h1 (fun q _=>mN q (fun _ _ _ _ e _=>nomatch e) (fun _ _ _ _ _ _ e _=>nomatch e) fun _ _ _ _ _ _ _ _ e _=>nomatch e) fun g S2 hc h2=> ?_;have hb:=fun f vs as S3 iW s3 h3 I3 k3 m3 rv Md=>oo hF H (E:=E) (Q:=Q) (f:=f) (vs:=vs) (as:=as) (S:=S3) (lab:=iW) (s:=s3) h3 I3 rv (ck.step (ck.step hQ k1 m1) k3 m3) Md;refine mN hc (fun x id e1 Eb e2 e3=> ?_) (fun C fs f e1 hm hn e2 e3=> ?_) fun sl q f e1 hσ hq hm hn e2 e3=> ?_
 ·refine bc fun no=> ?_
  subst e1 e3;obtain rfl:g=none:=by injection e2
  obtain ⟨slot,Ri⟩:=vL Eb;obtain ⟨t,rfl⟩:=aD.str' r1;refine no ?_;clear no;refine getMethod_builtin (typeIs_str _ _ _) F.plainAttrs_str slot Ri (fun _ e=>nomatch e) ?_;refine bG hp ((jN R hP hN p args).step h2 I1 dm fun vs as S2 be s2 h3 I2 k2 m2 r2 np=>⟨mP,sk (show Ev.opt (((kR as).bind (kP x m)).map V.d) S2=some (res,S') from h3) fun d' pR h9=>ae pR fun ds Ax pR=> ?_⟩);refine bc fun no=> ?_;obtain ⟨Q3,_,_,Oh,Lc⟩:=Bu pR;obtain rfl:id=Q3:=Option.some.inj (Eb.symm.trans Oh);refine no ?_;clear no;exact Lc t (r2.ds Ax) I2.fresh fun v s' K Rv=>dR hQ h9 (I2.keeps K) ((k1.trans k2).trans (.of_keeps (al K))) (m1.trans m2) Rv
 ·refine bc fun no=> ?_
  subst e1 e3;obtain rfl:g=some f:=by injection e2
  have QJ:=r1;obtain ⟨a,dx,mm,gg,es,n,rfl,g1,g2,g3,g4,g5,g6,g7,g8⟩:=aD.inst' r1;refine no ?_;clear no;refine qP O I1 hm g1 g3 g4 (by rw [g5];exact (g7 m).2 hn) ?_;exact bG hp ((jN R hP hN p args).step h2 I1 dm fun vs as S2 be s2 h3 I2 k2 m2 r2 np=>⟨cO (I2.kf O) (dD c.x.w.params hm).2.2.2.2,hb _ _ _ _ _ _ h3 I2 k2 m2 (.cons _ _ _ _ (k2.rep QJ) r2) np⟩)
 ·refine bc fun no=> ?_
  subst e1 e3;obtain rfl:g=some f:=by injection e2
  obtain ⟨a,rfl,ha⟩:=r1;obtain ⟨a',dx,es,n,g1,g2,g3,g4,g5,g6,g7⟩:=uL I1 hσ hq;obtain rfl:a=a':=I1.core.inj _ _ _ ha g1;refine no ?_;clear no;refine qP O I1 hm g3 g4 g5 (g6.2 m hn) ?_;exact bG hp ((jN R hP hN p args).step h2 I1 dm fun vs as S2 be s2 h3 I2 k2 m2 r2 np=>⟨cO (I2.kf O) (dD c.x.w.params hm).2.2.2.2,hb _ _ _ _ _ _ (show dL fn f (V.ptr::as) S2=some (res,S') from h3) I2 k2 m2 (.cons _ _ _ _ (show uD be _ from ⟨a,rfl,m2.2 a ha⟩) r2) np⟩)
theorem rL{g:Str}{gp p:Pos}{args:List Expr}(hp:args.all aE=true):gL c (eval (.Call (.Name g gp) args [] p) c.env) (u4 fn r ns (.Name g gp) args) (dc c):=by
 intro S lab s res S' hf I Q E hQ hE;rw [arm_eval_Call_Name'];refine wpAny_bind ((R.ev c ns hP hN (.Name g gp)).step hf I hE fun fv v S1 lab1 s1 h1 I1 k1 m1 r1 dm=> ?_)
 cases v with
 |ptr=>exact cg h1
 |d f=>
 refine bG hp ((jN R hP hN p args).step h1 I1 dm fun vs as S2 be s2 h3 I2 k2 m2 r2 np=>⟨?_, ?_⟩)
 ·rcases uc hK h3 c.x.w.params with ⟨a,rfl,hk⟩|⟨id,rfl⟩|⟨T,rfl⟩
  ·exact (aD.val' r1:fv=_)▸cO (I2.kf H.ok) hk
  ·exact (aD.val' r1:fv=_)▸mP
  ·exact (aD.val' r1:fv=_)▸tO
 ·exact z8 hF H (K:=hK) h3 I2 (k2.rep r1) r2 (ck.step (ck.step hQ k1 m1) k2 m2) np
theorem t0{ks:List (Option Expr)}{vs:List Expr}{dp ap p:Pos}{key dflt:Expr}(hl:cF (.Attribute (.Dict ks vs dp) "get" ap) p=true)(hp:[key,dflt].all aE=true):
  gL c (eval (.Call (.Attribute (.Dict ks vs dp) "get" ap) [key,dflt] [] p) c.env) (dictGet r ns ks vs key dflt) (dc c):=by
 intro S lab s res S' hf I Q E hQ hE;refine d4 hl (Nat.le_of_ble_eq_true rfl) hp ((ou R hP hN _ _ _).step hf I hE fun ov kv S1 lab1 s1 h1 I1 k1 m1 r1 dm=>fun pl=> ?_);refine bc fun no=> ?_;obtain ⟨da,rR,rfl,Ax,hm,PR,hv⟩:=r1.mapOf;refine no ?_;clear no;refine getMethod_builtin hm.typeIs F.plainAttrs_dict F.slot_dict_get F.type_dict_get hm.noDict ?_;have he:backTo p (starEach [key,dflt] c.env)= [(false,eval key c.env),(false,eval dflt c.env)]:=by
  obtain ⟨h1,h2⟩:=Bool.and_eq_true_iff.mp hp;rw [bz h1,bz (Bool.and_eq_true_iff.mp h2).1];rfl
 dsimp only;rw [he];refine wpAny_dict_get2 (knd:=strKind pw c.x.w) Ax ((aM R hP hN key).step h1 I1 dm fun TT dk S2 be s2 h2 I2 k2 m2 r2 np=>(aM R hP hN dflt).step h2 I2 np fun dv dd S3 iW s3 h3 I3 k3 m3 r3 Md=>ae h3 fun x hx h9=> ?_);refine bc fun no=> ?_;obtain rfl:=hV hx;obtain ⟨t,rfl⟩:=aD.str' r2;obtain ⟨SU,Tq,e,Tw,GB,Tx,AJ⟩:=((r1.kept k2).kept k3).mapOf;obtain rfl:da=SU:=by injection e
 refine no ?_;clear no;have tk:=aw (s:=s3) (s3.toks+1);refine ⟨x,_,strKind_is pw c.x.w x t,GB, ?_⟩;refine dR (R:=dc c) (lab':=iW) hQ h9 (I3.keeps tk) (((k1.trans k2).trans k3).trans (.of_keeps (al tk))) ((m1.trans m2).trans m3) ?_;show aD _ _ _ ((kv.lookup x).getD dd)
 cases hx:kv.lookup x with
 |none=>rw [(AJ x).2 hx];exact aD.keeps r3 (al tk)
 |some y=>
  refine bc fun no=> ?_;obtain ⟨v',e1,rv⟩:=(AJ x).1 y hx;refine no ?_;clear no;rw [e1];exact aD.keeps rv (al tk)
end
theorem wt{w:World}{s:Shared}(X:(KF w.params).In s.heap){C x dx f:Addr}{m:Str}(hm:bT C m=some f)(h1:At s.heap x (.ref C) (some dx) .plain){es:Array DictEntry}{n:Nat}(h2:At s.heap dx (.type "dict") none (.dict es n))(h3:StrKeys es)
  (hv:nsFind es m=none) {A:Around} {pl:Sem Bool} {Q:Value×List Value→Shared→Prop} {E:Value→Shared→Prop} (h:Q (.ref f,[.ref x]) s):wpAny (model pw w) A (getMethod (.ref x) m pl) Q E s:=by
 refine bc fun no=> ?_;obtain ⟨f1,f2,f3,f4,f5⟩:=dD w.params hm;refine no ?_;clear no;refine method_fn (od:=some ⟨.type "dict",none,.dict es n,#[]⟩) X ⟨h1.exact,rfl,rfl,h2.exact⟩ f1 f2 f3 f4 ?_ h;unfold shadowIn;dsimp only;rw [iH h3,hv];rfl
theorem aA.next{c:Fc}{s s1 s2:Shared}{σ σ':Option Slot}{lab1 be:ag}(P:aA c (fun _=>none) s σ lab1 s1)(P':aA c lab1 s1 σ' be s2):aA c (fun _=>none) s σ' be s2:=
 ⟨P'.core,P'.slot,P.kept.trans P'.kept,(fun _ _ e=>nomatch e),P'.only⟩
section
variable{P:Fc→Prop}{r:ba}(R:aY P r){x:Cx}{fn:au}{n k:Nat}(hF:cZ x fn n)(hK:kg fn){c:Fc}{ns:ab}(hP:P c)(H:fW x n k c)(hN:aT c ns)
include R hF hK hP H hN
omit R hF hK hP H hN in
theorem zL{g:Str}{S:St}{q:Addr×ClsRec}(h:qf ns g S=some q):ns.lookup g=some .globalImplicit∧bV.lookup g=some (.val (.ref q.1))∧cw.lookup q.1=some q.2:=
 aH h fun h0 h=>ae h fun d h1 h=>ae h fun v h2 h=>ae h fun a h3 h=>gM h fun cr h4 h=>h▸⟨beq_iff_eq.mp (Bool.and_eq_true_iff.mp h0).2,h1.trans (congrArg some ((iv h2).trans (congrArg _ (kT h3)))),h4⟩
theorem Bn{g:Str}{C:Addr}{cr:ClsRec}{a:Expr}{m:Str}{gp q ap p:Pos}{S S':St}{res:bH V}{lab:ag}{s:Shared}(hg:qf ns g S=some (C,cr))(ha:aE a=true)
  (hl:cF (.Attribute (.Call (.Name g gp) [a] [] q) m ap) p=true) (hf:Ev.bind (fe r ns a) (fun d=>jD fn C cr d m) S=some (res,S')) (I:Inv c lab S s) {Q:Value→Shared→Prop} {E:Value→Shared→Prop}
  (hQ:ck c lab s S' res (dc c) Q) (hE:dl c lab s S' res E):wpAny (model pw c.x.w) c.A (eval (.Call (.Attribute (.Call (.Name g gp) [a] [] q) m ap) [] [] p) c.env) Q E s:=by
 have O:=H.ok;refine bc fun no=> ?_;obtain ⟨hk,L4,hC⟩:=zL hg;refine no ?_;clear no;have hp:[a].all aE=true:=by rw [List.all_cons,ha];rfl
 refine d4 hl (Nat.zero_le _) rfl ?_;rw [arm_eval_Call_Name'];have hd:(g== ("__debug__":Str))=false:=by
  cases hq:g== ("__debug__":Str) with
  |false=>rfl
  |true=>
   obtain rfl:=beq_iff_eq.mp hq;have:bV.lookup ("__debug__":Str)=none:=by decide+kernel
   exact nomatch this.symm.trans L4
 refine wpAny_bind (wpAny_Name (dF O I (hN.glob g hk) L4 fun v rv=> ?_) hd);obtain rfl:v=_:=aD.val' rv;have X0:=I.kf O;have RH:keepIn (KF c.x.w.params) (.ref C)=true:=by
  have F:=d7 (oY c.x.w.params) hC;simp only [lQ,Bool.and_eq_true,beq_iff_eq] at F;exact F.1.1.1.2
 refine bG hp ?_;rw [bz ha];refine spliced_cons ((aM R hP hN a).step hf I hE fun av d S1 lab1 s1 h1 I1 k1 m1 r1 dm=>spliced_nil ⟨cO (I1.kf O) RH,ae h1 fun f hm h1=>ae h1 fun q nc h1=>ae h1 fun fs MZ h1=>aH h1 fun Rr h1=>ae h1 fun q2 M2 h1=>ae h1 fun dv hdv h1=>ae h1 fun sl gQ h9=> ?_⟩);have hn:=Option.isNone_iff_eq_none.mp Rr;have PD:bT C m=some f:=by unfold bT;rw [hC];exact hm
 refine uS hF H hC (as:=[.d d]) rfl (nc.trans (congrArg some (oj MZ))) I1 (.cons av (.d d) [] [] r1 .nil) fun xa be s2 P2 hx=>fun pl=> ?_;have X2:(KF c.x.w.params).In s2.heap:=hH O.K P2.core.old;refine bc fun no=> ?_;obtain ⟨x',dx,es,nn,g1,g2,g3,g4,g5,g6,g7⟩:=P2.slot;obtain rfl:xa=x':=P2.core.inj _ _ _ hx g1;refine no ?_;clear no;refine wt X2 PD g3 g4 g5 (g6.2 m hn) ?_;refine bG rfl (spliced_nil ⟨cO X2 (dD c.x.w.params PD).2.2.2.2, ?_⟩);have QA:=P2.slot;refine wpAny_call (hF (withG c (Rs c.G lab1)) be s2 f _ [.ptr] _ _ _ (M2.trans (congrArg some (Prod.ext (lI hdv) gQ))) H.cx H.xok (Nat.le_trans (P2.core.res _ (.inr (by rw [g1];exact fun e=>nomatch e))).1 (Nat.le_of_lt g3.lt)) H.aok (fun a l e=>(P2.only a l e).1) P2.core QA (.cons _ _ _ _ ⟨xa,rfl,hx⟩ .nil) _ ?_ ?_)
 ·intro v d' iW s3 e P3 Rv
  refine bc fun no=> ?_;obtain rfl:dv=d':=by injection e
  obtain ⟨lab',I',k',m',rb⟩:=oz hF H I1 (P2.next P3);refine no ?_;clear no;refine dR (R:=dc c) (lab':=lab') hQ h9 I' (k1.trans k') (m1.trans m') (rb ?_);exact aD.mono (fun a _ _ _ n q _=>⟨q,fun z=>n (z.imp id fun z=>(z rfl).elim)⟩) Rv
 ·exact fun e iW s3 q=>nomatch q
end
theorem an.monoF{h h':Heap}{M M':Addr→Prop}(k: ∀a c d x,¬M a→Et x→At h a c d x→c≠ .none→At h' a c d x∧¬M' a){vs:List Value}{ds:List D}(r:an h M vs ds):an h' M' vs ds:=
 an.ind (P:=an h' M') .nil (fun v d vs ds a _ b=>.cons v d vs ds (aD.monoF k a) b) r
noncomputable def eN(G N:Addr→Prop):Addr→Prop:=fun a=>G a∨N a
section
variable{h:Heap}{G N:Addr→Prop}{lab:ag}(hN: ∀a,N a→h.get? a=none)
include hN
theorem l7{a:Addr}{c:Value}{d:Option Addr}{x:Data}(q:At h a c d x)(n: ¬Rs G lab a): ¬Rs (eN G N) lab a:=by
 rintro ((z|z)|z)
 ·exact n (.inl z)
 ·obtain ⟨sl,q,_⟩:=q;rw [hN a z] at q;cases q
 ·exact n (.inr z)
theorem kn{L:cP}{v:Value}{l:List D}(r:bZ h G lab L v l):bZ h (eN G N) lab L v l:=by
 obtain ⟨b,vs,m,e,hl,hb,r⟩:=r;exact ⟨b,vs,m,e,hl,hb,r.mono fun _ _ _ _ n q _=>⟨q,l7 hN q n⟩⟩
theorem n7{x:Str}{v:Value}{l:Loc}(r:bp h G lab x v l):bp h (eN G N) lab x v l:=by
 cases l with
 |d d=>exact aD.mono (fun _ _ _ _ n q _=>⟨q,l7 hN q n⟩) r
 |own l=>exact kn hN r
 |ptr=>exact r
theorem zq{x:Str}{v:Value}{l:FV}(r:cQ h G lab x v l):cQ h (eN G N) lab x v l:=by
 cases l with
 |d d=>exact aD.mono (fun _ _ _ _ n q _=>⟨q,l7 hN q n⟩) r
 |own l=>exact kn hN r
theorem tB{w:World}{σ:Option Slot}(r:bf w h G lab σ):bf w h (eN G N) lab σ:=by
 cases σ with
 |none=>trivial
 |some σ=>
  cases σ with
  |inst c fs=>
   obtain ⟨b,d,es,m,h1,h2,h3,h4,h5,h6,h7⟩:=r;exact ⟨b,d,es,m,h1,h2,h3,h4,h5,h6,fun f y e=>let ⟨v,h8,h9⟩:=h7 f y e;⟨v,h8,zq hN h9⟩⟩
  |deck cells am=>
   obtain ⟨d,es,m,v,u,h1,h2,h3,h4,h5,h6⟩:=r;exact ⟨d,es,m,v,u,h1,h2,h3,h4,kn hN h5,h6⟩
end
section
variable{c:Fc}{lab:ag}{S:St}{s:Shared}
theorem Inv.reserveN(I:Inv c lab S s){s':Shared}(kp:Keeps s s'){N:Addr→Prop}(hN: ∀a,N a→s.heap.objs.size≤a∧tc s'.heap a):Inv (withG c (eN c.G N)) lab S s':=by
 have n0: ∀a,N a→s.heap.get? a=none:=fun a z=>Heap.get?_none_of_le (hN a z).1;have hn: ∀a,N a→lab a=none:=fun a z=>by
  cases q:lab a with
  |none=>rfl
  |some L'=>exact absurd (.inr (by rw [q];exact fun e=>nomatch e)) (I.core.new (hN a z).1)
 have k:=al kp;have I':=I.keeps kp;refine ⟨⟨I'.core.old,I'.core.os,I'.core.gens,fun a e=> ?_,fun env he=> ?_,I'.core.inj,fun a e=> ?_,I'.core.tab⟩,I.isFrame, ?_,fun x l e q=> ?_,fun hc x e=> ?_,(tB n0 I.slot).keeps k⟩
 ·rcases e with (e|e)|e
  ·exact I'.core.res a (.inl e)
  ·exact ⟨(show c.x.base.objs.size≤a from Nat.le_trans (bx (c:=c) I) (hN a e).1),(hN a e).2⟩
  ·exact I'.core.res a (.inr e)
 ·refine bc fun no=> ?_
  obtain ⟨q,l,d,y,e,r,z⟩:=I'.core.fr env he;refine no ?_;clear no;exact ⟨q,l,d,y,e,r.imp .inl id,z⟩
 ·rcases e with e|e
  ·exact I.core.disj a e
  ·exact hn a e
 ·refine bc fun no=> ?_
  obtain ⟨cl,es,n,h1,h2,h3,h4⟩:=I.frame;refine no ?_;clear no;exact ⟨cl,es,n,h1.keep k,h2,h3,fun x l e q=>let ⟨v,h5,h6⟩:=h4 x l e q;⟨v,h5,(n7 n0 h6).keeps k⟩⟩
 ·refine bc fun no=> ?_
  obtain ⟨k1,a,v,k2,k3,k4,k5,k6⟩:=I.cells x l e q;refine no ?_;clear no;exact ⟨k1,a,v,k2,fun hc=>.inl (k3 hc),k4,k5.keep k,(n7 n0 k6).keeps k⟩
 ·refine bc fun no=> ?_
  obtain ⟨a,v,k1,k2,k3⟩:=I.bare hc x e;refine no ?_;clear no;exact ⟨a,v,k1,k2,k3.keep k⟩
theorem Inv.letGoN{N:Addr→Prop}(I:Inv (withG c (eN c.G N)) lab S s)(hN: ∀a,N a→∃cl d y,At s.heap a cl d y∧cl≠ .type "frame"∧cl≠ .type "cell"):Inv c lab S s:=by
 have hg: ∀b,c.G b→eN c.G N b:=fun b h=>.inl h;refine ⟨⟨I.core.old,I.core.os,I.core.gens,fun b e=>I.core.res b (e.imp (hg b) id),fun env he=> ?_,I.core.inj,fun b e=>I.core.disj b (.inl e),I.core.tab⟩,I.isFrame, ?_,fun x l e q=> ?_,I.bare,oi hg I.slot⟩
 ·obtain ⟨q,l,d',y,e,r,z,m⟩:=I.core.fr env he
  refine ⟨q,l,d',y,e, ?_,z,m⟩;rcases r with (r|r)|r
  ·exact .inl r
  ·obtain ⟨cl,d2,y2,ha,h1,_⟩:=hN _ r;exact absurd (ha.same z).1 h1
  ·exact .inr r
 ·obtain ⟨cl,es,n,h1,h2,h3,h4⟩:=I.frame
  exact ⟨cl,es,n,h1,h2,h3,fun x l e q=>let ⟨v,h5,h6⟩:=h4 x l e q;⟨v,h5,jI hg h6⟩⟩
 ·obtain ⟨k1,b,v,k2,k3,k4,k5,k6⟩:=I.cells x l e q
  refine ⟨k1,b,v,k2,fun hc=> ?_,k4,k5,jI hg k6⟩;rcases k3 hc with k3|k3
  ·exact k3
  ·obtain ⟨cl,d2,y2,ha,_,h2⟩:=hN _ k3;exact absurd (ha.same k5).1 h2
noncomputable def sz(c:Fc)(lab:ag)(h h':Heap)(b:Addr):Prop:=c.x.base.objs.size≤b∧lab b=none∧
 ((¬c.G b∧∃o vs,h.get? b=some o∧o.data= .fields vs∧o.cls≠ .type "code")∨(c.G b∧(∃cl d y,At h b cl d y∧cl≠ .type "frame"∧cl≠ .type "cell"∧cl≠ .type "code")∧tc h' b))
section
variable{W:Addr→Prop}{h':Heap}{t:Nat}(k: ∀b o,¬W b→s.heap.get? b=some o→h'.get? b=some o)(hW: ∀b,W b→sz c lab s.heap h' b)
include k hW
theorem fy{a:Addr}{cl:Value}{d:Option Addr}{x:Data}(n: ¬Rs c.G lab a∨lab a≠none)(nf:Et x)(q:At s.heap a cl d x):At h' a cl d x:=by
 by_cases w:W a
 ·exfalso
  obtain ⟨_,e,z⟩:=hW a w;rcases n with n|n
  ·rcases z with ⟨_,o,vs,e1,e2,_⟩|⟨g,_⟩
   ·obtain ⟨sl,q,_⟩:=q
    rw [q] at e1;cases e1;exact nf _ e2
   ·exact n (.inl g)
  ·exact n e
 ·obtain ⟨sl,q,z⟩:=q
  exact ⟨sl,k _ _ w q,z⟩
theorem el{v:Value}{d:D}(r:aD s.heap (Rs c.G lab) v d):aD h' (Rs c.G lab) v d:=aD.monoF (fun a _ _ _ n nf q _=>⟨fy k hW (.inl n) nf q,n⟩) r
theorem cI{v:List Value}{d:List D}(r:an s.heap (Rs c.G lab) v d):an h' (Rs c.G lab) v d:=an.monoF (fun a _ _ _ n nf q _=>⟨fy k hW (.inl n) nf q,n⟩) r
theorem mj{L:cP}{v:Value}{l:List D}(r:bZ s.heap c.G lab L v l):bZ h' c.G lab L v l:=by
 obtain ⟨b,vs,m,e,hl,hb,r⟩:=r;exact ⟨b,vs,m,e,hl,fy k hW (.inr (by rw [hl];exact fun e=>nomatch e)) (fun _ e=>nomatch e) hb,cI k hW r⟩
theorem qN{x:Str}{v:Value}{l:Loc}(r:bp s.heap c.G lab x v l):bp h' c.G lab x v l:=by
 cases l with
 |d d=>exact el k hW r
 |own l=>exact mj k hW r
 |ptr=>exact r
theorem Ch{x:Str}{v:Value}{l:FV}(r:cQ s.heap c.G lab x v l):cQ h' c.G lab x v l:=by
 cases l with
 |d d=>exact el k hW r
 |own l=>exact mj k hW r
theorem Inv.touchW(I:Inv c lab S s):Inv c lab S {s with heap:=h',toks:=t}:=by
 have low: ∀b,b<c.x.base.objs.size→¬W b:=fun b hb w=>Nat.lt_irrefl _ (Nat.lt_of_lt_of_le hb (hW b w).1);have lb: ∀{b L},lab b=some L→(¬Rs c.G lab b∨lab b≠none):=fun e=>.inr (by rw [e];exact fun e=>nomatch e);refine ⟨⟨qI I.core.old fun b o hb e=>k b o (low b hb) e,I.core.os,I.core.gens,fun b e=> ?_,fun env he=> ?_,I.core.inj,I.core.disj,I.core.tab.1,I.core.tab.2.mono (fun o e=>k 918 o (low 918 I.core.tab.1) e) fun b o vs e e1 e2=>k b o (fun w=>by
  obtain ⟨_,_,z⟩:=hW b w;rcases z with ⟨_,o',AE,f1,_,f3⟩|⟨_,⟨cl,d2,y2,⟨sl,ha,_⟩,_,_,h3⟩,_⟩
  ·rw [f1] at e;cases e;exact f3 e1
  ·rw [ha] at e;cases e;exact h3 e1) e⟩,I.isFrame, ?_,fun x l e q=> ?_,fun hc x e=> ?_, ?_⟩
 ·obtain ⟨q,Mh,d',y',z,n⟩:=I.core.res b e
  refine ⟨q, ?_⟩
  by_cases w:W b
  ·obtain ⟨_,e',z'⟩:=hW b w
   rcases z' with ⟨g,_⟩|⟨_,_,z'⟩
   ·rcases e with e|e
    ·exact absurd e g
    ·exact absurd e' e
   ·exact z'
  ·obtain ⟨sl,z1,z2⟩:=z
   exact ⟨_,_,_,⟨sl,k _ _ w z1,z2⟩,n⟩
 ·obtain ⟨q,l,d',y,e,r,z,m⟩:=I.core.fr env he
  refine ⟨q,l,d',y,e,r, ?_,m⟩
  by_cases w:W l
  ·exfalso
   obtain ⟨_,e',z'⟩:=hW l w;rcases z' with ⟨g,o,vs,e1,e2,_⟩|⟨_,⟨cl,d2,y2,ha,h1,_,_⟩,_⟩
   ·obtain ⟨sl,z,_⟩:=z;rw [z] at e1;cases e1;exact m _ e2
   ·exact h1 (ha.same z).1
  ·obtain ⟨sl,z1,z2⟩:=z
   exact ⟨sl,k _ _ w z1,z2⟩
 ·obtain ⟨cl,es,n,h1,h2,h3,h4⟩:=I.frame
  exact ⟨cl,es,n,fy k hW (lb I.isFrame) (fun _ e=>nomatch e) h1,h2,h3,fun x l e q=>let ⟨v,h5,h6⟩:=h4 x l e q;⟨v,h5,qN k hW h6⟩⟩
 ·obtain ⟨k1,b,v,k2,k3,k4,k5,k6⟩:=I.cells x l e q
  refine ⟨k1,b,v,k2,k3,k4, ?_,qN k hW k6⟩
  by_cases w:W b
  ·exfalso
   obtain ⟨_,e',z'⟩:=hW b w;rcases z' with ⟨g,o,vs,e1,e2,_⟩|⟨_,⟨cl,d2,y2,ha,_,h2,_⟩,_⟩
   ·obtain ⟨sl,z,_⟩:=k5;rw [z] at e1;cases e1;cases e2
   ·exact h2 (ha.same k5).1
  ·obtain ⟨sl,z1,z2⟩:=k5
   exact ⟨sl,k _ _ w z1,z2⟩
 ·obtain ⟨b,v,k1,k2,k3⟩:=I.bare hc x e
  exact ⟨b,v,k1,k2,fy k hW (lb k2) (fun _ e=>nomatch e) k3⟩
 ·have gQ:=I.slot
  cases hσ:S.σ with
  |none=>trivial
  |some σ=>
   rw [hσ] at gQ
   cases σ with
   |inst C fs=>
    obtain ⟨b,d,es,m,g1,g2,g3,g4,g5,g6,g7⟩:=gQ;exact ⟨b,d,es,m,g1,g2,fy k hW (lb g1) (fun _ e=>nomatch e) g3,fy k hW (lb g2) (fun _ e=>nomatch e) g4,g5,g6,fun f y e=>let ⟨v,h8,h9⟩:=g7 f y e;⟨v,h8,Ch k hW h9⟩⟩
   |deck cells am=>
    obtain ⟨d,es,m,v,u,g1,g2,g3,g4,g5,g6⟩:=gQ;exact ⟨d,es,m,v,u,g1,fy k hW (lb g1) (fun _ e=>nomatch e) g2,g3,g4,mj k hW g5,g6⟩
end
end
set_option backward.match.sparseCases true
structure iS(c0 c:Fc)(target:Expr)(I:Addr)(ds:List D)(W:Addr→Prop)(St:Nat→ag→Heap→Prop):Prop where
 kept: ∀i lab h lab' h',Kept lab h lab' h'→St i lab h→St i lab' h'
 item: ∀i lab S s d (Q:Option Value→Shared→Prop) (E:Value→Shared→Prop),ds[i]? =some d→Inv c lab S s→St i lab s.heap→
  (∀v s',Inv c lab S s'→(∀b o,¬W b→s.heap.get? b=some o→s'.heap.get? b=some o)→
   (∀(Q':Unit→Shared→Prop) (E':Value→Shared→Prop),(∀s'',Inv c lab S s''→(∀b o,¬W b→s'.heap.get? b=some o→s''.heap.get? b=some o)→St (i+1) lab s''.heap→ei c s''.heap lab v d→Q' () s'')→
    wpAny (model pw c.x.w) c.A (letOwnedTupleGo target (.ref I) v) Q' E' s')→Q (some v) s')→wpAny (model pw c.x.w) c.A (pyNext (.ref I)) Q E s
 last: ∀lab S s (Q:Option Value→Shared→Prop) (E:Value→Shared→Prop),Inv c lab S s→St ds.length lab s.heap→(∀s',Inv c0 lab S s'→(∀b o,¬W b→s.heap.get? b=some o→s'.heap.get? b=some o)→Q none s')→wpAny (model pw c.x.w) c.A (pyNext (.ref I)) Q E s
 self: ∀i lab s (Q:Value→Shared→Prop) (E:Value→Shared→Prop),St i lab s.heap→Q (.ref I) s→wpAny (model pw c.x.w) c.A (pyIter (.ref I)) Q E s
 free: ∀i lab S s,Inv c lab S s→St i lab s.heap→Inv c0 lab S s
 sub: ∀a,c0.G a→c.G a
 idle:(∀a,W a→¬c.G a)→∀i lab (s:Shared),St i lab s.heap→∀h' b,W b→Mine.sz c lab s.heap h' b
noncomputable def oP:List String:=["enumerate","zip","dict_itemiterator","dict_reverseitemiterator","odict_iterator","itertools.zip_longest","itertools.pairwise"]
theorem rG{M:Model}{A:Around}{E:Value→Shared→Prop}{s:Shared}{target:Expr}{I:Addr}{v:Value}{o:Obj}{m:String}{Q:Unit→Shared→Prop}(ho:s.heap.get? I=some o)(hc:o.cls= .type m)(hn:oP.contains m=false)(hQ:Q () s):
  wpAny M A (letOwnedTupleGo target (.ref I) v) Q E s:=by
 have go:wpAny M A (do
   let (.ref r,.ref a):=((.ref I:Value),v)|return
   let o ←load r
   match o.cls,o.data with
   | .type n,.fields vs=>
    if ["enumerate","zip","dict_itemiterator","dict_reverseitemiterator","odict_iterator","itertools.zip_longest","itertools.pairwise"].contains n&&vs[0]? ==some (rawInt a) then
     rule "for.unpacks-the-owned-tuple"
     updateField r 0 .none
   |_,_=>pure ()) Q E s:=by
  cases v<;>try exact wpAny_pure hQ
  refine wpAny_bind (wpAny_load ho ?_);rw [hc]
  cases o.data<;>try exact wpAny_pure hQ
  dsimp only;rw [if_neg (by rw [show (["enumerate","zip","dict_itemiterator","dict_reverseitemiterator","odict_iterator","itertools.zip_longest","itertools.pairwise"].contains m)=false from hn,Bool.false_and];exact Bool.false_ne_true)];exact wpAny_pure hQ
 unfold letOwnedTupleGo
 cases target<;>first|exact wpAny_pure hQ|exact go
theorem Kept.get{lab lab':ag}{h h':Heap}(k:Kept lab h lab' h'){a:Addr}{o:Obj}(e:lab a=none)(q:h.get? a=some o)(n:o.cls≠ .none)(nf:o.cls≠ .type "frame"):h'.get? a=some o:=by
 obtain ⟨⟨sl,r1,r2⟩,_⟩:=k a o e q n;rw [r2 nf] at r1;exact r1
section
variable{c:Fc}{target:Expr}{I:Addr}{fp:List Addr}{n:Nat}{P:Nat→Value→Prop}{iR:Nat→Heap→Prop}{ds:List D}
theorem iS.ofWalks(hW:Walks pw c.x.w c.A I fp [I] n P iR)(hn:ds.length=n)
  (hf: ∀i h,iR i h→∀b∈fp,∃o,h.get? b=some o∧o.cls≠ .none∧o.cls≠ .type "frame") (hx: ∀i h,iR i h→∃o vs m,h.get? I=some o∧o.cls= .type m∧o.data= .fields vs∧(oP.contains m||m=="code")=false)
  (vals:List Value) (es:List D) (sr: ∀i v d h lab,P i v→ds[i]? =some d→an h (Rs c.G lab) vals es→ei c h lab v d):
  iS c c target I ds (· =I) (fun i lab h=>(iR i h∧c.x.base.objs.size≤I)∧(∀b∈fp,¬Rs c.G lab b)∧an h (Rs c.G lab) vals es):=by
 have hI:I∈fp:=hW.sub I (List.mem_singleton.mpr rfl);have idle: ∀i lab (s:Shared),iR i s.heap→c.x.base.objs.size≤I→(∀b∈fp,¬Rs c.G lab b)→∀h' b,b=I→sz c lab s.heap h' b:=fun i lab s st hb nr h' b e=>by
  refine bc fun no=> ?_;subst e;obtain ⟨o,vs,m,e1,e2,e3,e4⟩:=hx _ _ st;refine no ?_;clear no;refine ⟨hb, ?_,.inl ⟨fun g=>nr b hI (.inl g),o,vs,e1,e3,by rw [e2];intro q;injection q with q;rw [q] at e4;simp at e4⟩⟩
  cases q:lab b with
  |none=>rfl
  |some l=>exact absurd (.inr (by rw [q];exact fun e=>nomatch e)) (nr b hI)
 refine ⟨fun i lab h lab' h' k ⟨⟨st,hb⟩,nr,rs⟩=>⟨⟨hW.frame i h h' st fun b hb o e=> ?_,hb⟩,fun b hb z=> ?_,k.reps rs⟩,fun i lab S s d Q E hd Iv ⟨⟨st,hb⟩,nr,rs⟩ hQ=> ?_,fun lab S s Q E Iv ⟨⟨st,hb⟩,nr,rs⟩ hQ=> ?_,fun i lab s Q E ⟨⟨st,_⟩,_⟩ hQ=>hW.self i s Q E st hQ,fun i lab S s Iv _=>Iv,fun _ h=>h,fun _ i lab s ⟨⟨st,hb⟩,nr,rs⟩=>idle i lab s st hb nr⟩
 ·refine bc fun no=> ?_
  obtain ⟨o',e',n1,n2⟩:=hf _ _ st b hb;refine no ?_;clear no;rw [e'] at e;cases e;refine k.get ?_ e' n1 n2
  cases q:lab b with
  |none=>rfl
  |some l=>exact absurd (.inr (by rw [q];exact fun e=>nomatch e)) (nr b hb)
 ·refine bc fun no=> ?_
  obtain ⟨o',e',n1,n2⟩:=hf _ _ st b hb;refine no ?_;clear no;have hl:lab b=none:=by
   cases q:lab b with
   |none=>rfl
   |some l=>exact absurd (.inr (by rw [q];exact fun e=>nomatch e)) (nr b hb)
  rcases z with z|z
  ·exact nr b hb (.inl z)
  ·exact z (k b o' hl e' n1).2
 ·have hi:i<n:=by rw [←hn];exact (List.getElem?_eq_some_iff.mp hd).1
  refine hW.item i s Q E hi st fun v h' tk hp O5 keep=> ?_;have kw: ∀b o,¬(b=I)→s.heap.get? b=some o→h'.get? b=some o:=fun b o nb e=>keep b o (by simpa using nb) e;have iw:=idle i lab s st hb nr h';refine hQ v _ (Iv.touchW kw iw) kw fun Q' E' hq=> ?_;refine bc fun no=> ?_;obtain ⟨o,vs,m,e1,e2,e3,e4⟩:=hx _ _ O5;refine no ?_;clear no;have F8:=cI kw iw rs;exact rG e1 e2 (Bool.or_eq_false_iff.mp e4).1 (hq _ (Iv.touchW kw iw) (fun b o _ e=>e) ⟨⟨O5,hb⟩,nr,F8⟩ (sr i v d _ lab hp hd F8))
 ·rw [hn] at st
  refine hW.done s Q E st fun h' tk keep=> ?_;have kw: ∀b o,¬(b=I)→s.heap.get? b=some o→h'.get? b=some o:=fun b o nb e=>keep b o (by simpa using nb) e;exact hQ _ (Iv.touchW kw (idle n lab s st hb nr h')) kw
end
set_option backward.match.sparseCases false
theorem Gm{m:String}(h:oP.contains m=false):oP.contains m=false:=h
section
variable{c:Fc}{target:Expr}(hh:c.A.handled=none)
include hh
theorem iS.list{I l:Addr}(kO:l≠I)(items:Array Value){ds:List D}(hn:ds.length=items.size):iS c c target I ds (· =I) (fun i lab h=>((h.IsListIter I l i∧h.IsList l items)∧c.x.base.objs.size≤I)∧(∀b∈ [I,l],¬Rs c.G lab b)∧an h (Rs c.G lab) items.toList ds):=by
 refine iS.ofWalks (Walks.list hh I l kO items) hn (fun i h ⟨⟨o,e1,e2,e3⟩,⟨o',f1,f2,f3⟩⟩ b hb=> ?_) (fun i h ⟨⟨o,e1,e2,e3⟩,_⟩=>⟨o,_,_,e1,e2,e3,by decide⟩) items.toList ds (fun i v d h lab hp hd rs=> ?_)
 ·simp only [List.mem_cons,List.not_mem_nil,or_false] at hb
  rcases hb with rfl|rfl
  ·exact ⟨o,e1,by rw [e2];simp,by rw [e2];simp⟩
  ·exact ⟨o',f1,by rw [f2];simp,by rw [f2];simp⟩
 ·obtain ⟨d',e,r⟩:=rs.get' i v (by rw [Array.getElem?_toList];exact hp)
  rw [hd] at e;cases e;exact r
theorem iS.tuple{I l:Addr}(kO:l≠I)(items:Array Value){ds:List D}(hn:ds.length=items.size):iS c c target I ds (· =I) (fun i lab h=>((h.IsTupleIter I l i∧h.IsTuple l items)∧c.x.base.objs.size≤I)∧(∀b∈ [I,l],¬Rs c.G lab b)∧an h (Rs c.G lab) items.toList ds):=by
 refine iS.ofWalks (Walks.tuple hh I l kO items) hn (fun i h ⟨⟨o,e1,e2,e3⟩,⟨o',f1,f2,f3⟩⟩ b hb=> ?_) (fun i h ⟨⟨o,e1,e2,e3⟩,_⟩=>⟨o,_,_,e1,e2,e3,by decide⟩) items.toList ds (fun i v d h lab hp hd rs=> ?_)
 ·simp only [List.mem_cons,List.not_mem_nil,or_false] at hb
  rcases hb with rfl|rfl
  ·exact ⟨o,e1,by rw [e2];simp,by rw [e2];simp⟩
  ·exact ⟨o',f1,by rw [f2];simp,by rw [f2];simp⟩
 ·obtain ⟨d',e,r⟩:=rs.get' i v (by rw [Array.getElem?_toList];exact hp)
  rw [hd] at e;cases e;exact r
theorem qw{h:Heap}{M:Addr→Prop}{x:Str}{i:Nat}{v:Value}{d:D}(hp:SignAt x i v)(hd:(jm x)[i]? =some d):aD h M v d:=by
 obtain ⟨cc,u,e,rfl⟩:=hp;unfold jm at hd;rw [List.getElem?_map,Array.getElem?_toList,e] at hd
 cases hd;exact .str _ _
theorem iS.strA{I:Addr}(x:Str)(t:Tok):iS c c target I (jm x) (· =I) (fun i lab h=>(h.IsStrIter I "str_ascii_iterator" x t i∧c.x.base.objs.size≤I)∧(∀b∈ [I],¬Rs c.G lab b)∧an h (Rs c.G lab) [] []):=by
 refine iS.ofWalks (Walks.strAscii hh I x t) (by simp [jm]) (fun i h ⟨o,e1,e2,e3⟩ b hb=> ?_) (fun i h ⟨o,e1,e2,e3⟩=>⟨o,_,_,e1,e2,e3,by decide⟩) [] [] (fun i v d h lab hp hd rs=>qw hh hp hd);rw [List.mem_singleton] at hb;subst hb;exact ⟨o,e1,by rw [e2];simp,by rw [e2];simp⟩
theorem iS.strW{I:Addr}(x:Str)(t:Tok):iS c c target I (jm x) (· =I) (fun i lab h=>(h.IsStrIter I "str_iterator" x t i∧c.x.base.objs.size≤I)∧(∀b∈ [I],¬Rs c.G lab b)∧an h (Rs c.G lab) [] []):=by
 refine iS.ofWalks (Walks.strWide hh I x t) (by simp [jm]) (fun i h ⟨o,e1,e2,e3⟩ b hb=> ?_) (fun i h ⟨o,e1,e2,e3⟩=>⟨o,_,_,e1,e2,e3,by decide⟩) [] [] (fun i v d h lab hp hd rs=>qw hh hp hd);rw [List.mem_singleton] at hb;subst hb;exact ⟨o,e1,by rw [e2];simp,by rw [e2];simp⟩
theorem iS.range{I:Addr}(n:Nat):iS c c target I (eR n) (· =I) (fun i lab h=>(IsRangeIter h I (0+ (i:Nat)*1) ((n:Int) - (i:Nat)) 1∧c.x.base.objs.size≤I)∧(∀b∈ [I],¬Rs c.G lab b)∧an h (Rs c.G lab) [] []):=by
 refine iS.ofWalks (Walks.range hh I 0 1 n) (by simp [eR]) (fun i h e1 b hb=> ?_) (fun i h e1=>⟨_,_,_,e1,rfl,rfl,by decide⟩) [] [] (fun i v d h lab hp hd rs=> ?_)
 ·rw [List.mem_singleton] at hb;subst hb
  exact ⟨_,e1,by simp,by simp⟩
 ·obtain ⟨t,rfl⟩:=hp
  unfold eR at hd;rw [List.getElem?_map] at hd;obtain ⟨j,hj,rfl⟩:=Option.map_eq_some_iff.mp hd;rw [List.getElem?_range (by have:=(List.getElem?_eq_some_iff.mp hj).1;simpa using this)] at hj
  cases hj
  have:(0:Int)+ (i:Int)*1= (i:Int):=by lia
  rw [this];exact .int _ _
end
theorem wx(n:Nat)(l:List D)(i:Nat)(d:D)(e:(gX n l)[i]? =some d): ∃x,l[i]? =some x∧d= .tup [.int (n+i:Nat),x]:=by
 induction l generalizing n i with
 |nil=>exact cg e
 |cons a r ih=>
  cases i with
  |zero=>exact ⟨a,rfl,(Option.some.inj e).symm⟩
  |succ i=>exact (ih (n+1) i e).elim fun x h=>⟨x,h.1,by rw [h.2,Nat.add_right_comm,Nat.add_assoc]⟩
theorem pL(n:Nat)(l:List D):(gX n l).length=l.length:=by
 induction l generalizing n with
 |nil=>rfl
 |cons a r ih=>exact congrArg (· +1) (ih (n+1))
theorem c9{G:Addr→Prop}{lab:ag}{a:Addr}(n: ¬Rs G lab a):lab a=none:=by
 cases q:lab a with
 |none=>rfl
 |some l=>exact absurd (.inr (by rw [q];exact fun e=>nomatch e)) n
theorem eF{G:Addr→Prop}{lab lab':ag}{h h':Heap}(k:Kept lab h lab' h'){a:Addr}{o:Obj}(q:h.get? a=some o)(z:o.cls≠ .none)(n: ¬Rs G lab a): ¬Rs G lab' a:=by
 rintro (e|e)
 ·exact n (.inl e)
 ·exact e (k a o (c9 n) q z).2
structure yL(c:Fc)(e it l:Addr)(items:Array Value)(ds:List D)(i:Nat)(lab:ag)(h:Heap):Prop where
 en: ∃old,IsEnum h e it i old
 li:h.IsListIter it l i
 ls:h.IsList l items
 base:c.x.base.objs.size≤e∧c.x.base.objs.size≤it
 ne: ¬Rs c.G lab e
 ni: ¬Rs c.G lab it
 nl: ¬Rs c.G lab l
 rs:an h (Rs c.G lab) items.toList ds
theorem iS.enum{c:Fc}(hh:c.A.handled=none){elts:List Expr}{k:Nat}{tp:Pos}{e it l:Addr}(PN:e≠it)(wY:l≠e)(RC:l≠it)(items:Array Value){ds:List D}(hn:ds.length=items.size):
  iS c c (.Tuple elts k tp) e (gX 0 ds) (fun b=>b=e∨b=it) (yL c e it l items ds):=by
 have idle: ∀{i lab} {s:Shared},yL c e it l items ds i lab s.heap→∀h' b,(b=e∨b=it)→sz c lab s.heap h' b:=fun {i lab s} st h' b hb=>by
  refine bc fun no=> ?_;obtain ⟨⟨old,e1⟩,⟨o,f1,f2,f3⟩,_,rS,ne,ni,nl,rs⟩:=st;refine no ?_;clear no;rcases hb with rfl|rfl
  ·exact ⟨rS.1,c9 ne,.inl ⟨fun g=>ne (.inl g),_,_,e1,rfl,by simp⟩⟩
  ·exact ⟨rS.2,c9 ni,.inl ⟨fun g=>ni (.inl g),_,_,f1,f3,by rw [f2];simp⟩⟩
 refine ⟨fun i lab h lab' h' k st=> ?_,fun i lab S s d Q E hd Iv st hQ=> ?_,fun lab S s Q E Iv st hQ=> ?_,fun i lab s Q E st hQ=> ?_,fun i lab S s Iv _=>Iv,fun _ h=>h,fun _ i lab s st=>idle st⟩
 ·refine bc fun no=> ?_
  obtain ⟨⟨old,e1⟩,⟨o,f1,f2,f3⟩,⟨o',g1,g2,g3⟩,rS,ne,ni,nl,rs⟩:=st;refine no ?_;clear no;exact ⟨⟨old,k.get (c9 ne) e1 (by simp) (by simp)⟩,⟨o,k.get (c9 ni) f1 (by rw [f2];simp) (by rw [f2];simp),f2,f3⟩,⟨o',k.get (c9 nl) g1 (by rw [g2];simp) (by rw [g2];simp),g2,g3⟩,rS,
   eF k e1 (by simp) ne,eF k f1 (by rw [f2];simp) ni,eF k g1 (by rw [g2];simp) nl,k.reps rs⟩
 ·refine bc fun no=> ?_
  obtain ⟨x,hx,rfl⟩:=wx 0 ds i d hd;obtain ⟨⟨old,e1⟩,nj,hl,rS,ne,ni,nl,rs⟩:=id st;obtain ⟨v,hv,rv⟩:=rs.get i x hx;refine no ?_;clear no;rw [Array.getElem?_toList] at hv;refine wpAny_pyNext_enum_item e1 nj hl hv PN fun h' ho A1 hT gP keep=> ?_;have kw: ∀b o,¬(b=e∨b=it)→s.heap.get? b=some o→h'.get? b=some o:=fun b o nb q=>keep b o (fun z=>nb (.inl z)) (fun z=>nb (.inr z)) q;have iw:=idle st h';have I1:Inv c lab S {s with heap:=h',toks:=s.toks+1}:=Iv.touchW kw iw;have DY:=cI kw iw rs;have QE:=el kw iw rv;have nh:h'.IsList l items:=by obtain ⟨o,g1,g2⟩:=hl;exact ⟨o,keep _ _ wY RC g1,g2⟩
  refine hQ _ _ I1 kw fun Q' E' hq=> ?_;refine wpAny_letOwnedTupleGo_enum ho fun Eg RV iN=> ?_;have rU: ∀b o,¬(b=e∨b=it)→h'.get? b=some o→Eg.get? b=some o:=fun b o nb q=>(iN.2 b fun z=>nb (.inl z)).trans q;have AH: ∀b,(b=e∨b=it)→sz c lab h' Eg b:=fun b hb=>by
   rcases hb with rfl|rfl
   ·exact ⟨rS.1,c9 ne,.inl ⟨fun g=>ne (.inl g),_,_,ho,rfl,by simp⟩⟩
   ·refine bc fun no=> ?_
    obtain ⟨o,f1,f2,f3⟩:=A1;refine no ?_;clear no;exact ⟨rS.2,c9 ni,.inl ⟨fun g=>ni (.inl g),_,_,f1,f3,by rw [f2];simp⟩⟩
  have I2:Inv c lab S {s with heap:=Eg,toks:=s.toks+1}:=I1.touchW (s:={s with heap:=h',toks:=s.toks+1}) rU AH;have Oj:s.heap.objs.size≠e:=Nat.ne_of_gt (Heap.lt_size e1);refine hq _ I2 rU ⟨⟨_,RV⟩, ?_, ?_,rS,ne,ni,nl,cI (s:={s with heap:=h',toks:=s.toks+1}) rU AH DY⟩ ?_
  ·refine bc fun no=> ?_
   obtain ⟨o,f1,f2⟩:=A1;refine no ?_;clear no;exact ⟨o,(iN.2 it PN.symm).trans f1,f2⟩
  ·refine bc fun no=> ?_
   obtain ⟨o,f1,f2⟩:=nh;refine no ?_;clear no;exact ⟨o,(iN.2 l wY).trans f1,f2⟩
  ·refine .tup _ _ _ _ (.of ((iN.2 _ Oj).trans hT)) (Iv.core.new (Nat.le_refl _)) ?_
   refine .cons _ _ _ _ ?_ (.cons _ _ _ _ (el (s:={s with heap:=h',toks:=s.toks+1}) rU AH QE) .nil);have:((0+i:Nat):Int)= (i:Int):=by simp
   rw [this];exact .int _ _
 ·rw [pL,hn] at st
  refine bc fun no=> ?_;obtain ⟨⟨old,e1⟩,nj,hl,rS,ne,ni,nl,rs⟩:=id st;refine no ?_;clear no;refine wpAny_pyNext_enum_end hh e1 nj hl (by simp) fun h' keep=> ?_;have kw: ∀b o,¬(b=e∨b=it)→s.heap.get? b=some o→h'.get? b=some o:=fun b o nb q=>keep b o (fun z=>nb (.inr z)) q;have I1:Inv c lab S {s with heap:=h',toks:=s.toks}:=Iv.touchW kw (idle st h');exact hQ _ I1 kw
 ·refine bc fun no=> ?_
  obtain ⟨⟨old,e1⟩,_⟩:=st;refine no ?_;clear no;exact wpAny_pyIter_enum e1 hQ
noncomputable def cH(c:Fc)(target:Expr)(lab:ag)(s:Shared)(S':St)(ds:List D)(Q:Value→Shared→Prop):Prop:=
 ∀G1 It W St lab' s',Inv (withG c G1) lab' S' s'→iS c (withG c G1) target It ds W St→St 0 lab' s'.heap→∀(bS:ag) (s0:Shared),Kept lab s.heap bS s0.heap→(∀b,W b→s0.heap.objs.size≤b)→Kept bS s0.heap lab' s'.heap→aV lab lab'→Q (.ref It) s'
theorem cH.step{c:Fc}{target:Expr}{lab lab1:ag}{s s1:Shared}{S':St}{ds:List D}{Q:Value→Shared→Prop}(h:cH c target lab s S' ds Q)(k:Kept lab s.heap lab1 s1.heap)(m:aV lab lab1):cH c target lab1 s1 S' ds Q:=
 fun G1 It W St lab' s' I it st bS s0 k0 hw k' m'=>h G1 It W St lab' s' I it st bS s0 (k.trans k0) hw k' (m.trans m')
noncomputable def AB(x:Cx)(I:Addr)(iR:Nat→Heap→Prop)(fp:List Addr)(vals:List Value)(es:List D)(G:Addr→Prop)(i:Nat)(lab:ag)(h:Heap):Prop:=
 (iR i h∧x.base.objs.size≤I)∧(∀b∈fp,¬Rs G lab b)∧an h (Rs G lab) vals es
noncomputable def dh(c:Fc)(target:Expr)(lab:ag)(s:Shared)(S':St)(ds:List D)(Q:Value→Shared→Prop):Prop:=
 ∀It fp iR vals es (bS:ag) (s0 s':Shared),(∀i h h',iR i h→(∀b∈fp,∀o,h.get? b=some o→h'.get? b=some o)→iR i h')→Inv c bS S' s0→Keeps s0 s'→(∀c2:Fc,c2.x=c.x→c2.A=c.A→iS c2 c2 target It ds (· =It) (AB c2.x It iR fp vals es c2.G))→(∀b∈fp,b<s'.heap.objs.size)→AB c.x It iR fp vals es c.G 0 bS s'.heap→
  s0.heap.objs.size≤It→It<s'.heap.objs.size→Kept lab s.heap bS s0.heap→aV lab bS→Q (.ref It) s'
theorem dh.step{c:Fc}{target:Expr}{lab lab1:ag}{s s1:Shared}{S':St}{ds:List D}{Q:Value→Shared→Prop}(h:dh c target lab s S' ds Q)(k:Kept lab s.heap lab1 s1.heap)(m:aV lab lab1):dh c target lab1 s1 S' ds Q:=
 fun It fp iR vals es bS s0 s' fr I kp it lt st hz Gd k' m'=>h It fp iR vals es bS s0 s' fr I kp it lt st hz Gd (k.trans k') (m.trans m')
theorem cH.toC{c:Fc}{target:Expr}{lab:ag}{s:Shared}{S':St}{ds:List D}{Q:Value→Shared→Prop}(h:cH c target lab s S' ds Q):dh c target lab s S' ds Q:=
 fun It fp iR vals es bS s0 s' fr I kp it lt st hz Gd k' m'=>h c.G It _ _ bS s' (I.keeps kp) (it c rfl rfl) st bS s0 k' (fun b e=>by rw [e];exact hz) (.of_keeps (al kp)) m'
noncomputable def ic:Prop:=∀(c:Fc) (lab:ag) (S:St) (s:Shared) (a b:Value) (l l':List D) (elts:List Expr) (k:Nat) (tp:Pos) (Q:Value→Shared→Prop) (E:Value→Shared→Prop),c.A.handled=none→Inv c lab S s→ei c s.heap lab a (.tup l)→ei c s.heap lab b (.lst l')→l.length≤1000000→l.length=l'.length→
 cH c (.Tuple elts k tp) lab s S (oF l l') Q→wpAny (model pw c.x.w) c.A (call (.type "zip") [a,b]) (fun v s1=>wpAny (model pw c.x.w) c.A (pyIter v) Q E s1) E s
theorem OT{h:Heap}{M:Addr→Prop}{a:Addr}{ds:List D}(r:aD h M (.ref a) (.lst ds)): ∃vs n,At h a (.type "list") none (.seq vs n)∧¬M a∧an h M vs.toList ds:=by
 cases r with|lst _ vs _ n h1 h2 h3=>exact ⟨vs,n,h1,h2,h3⟩
theorem lJ{c:Fc}{lab:ag}{S:St}{s:Shared}(I:Inv c lab S s): ¬Rs c.G lab s.heap.objs.size:=I.core.new (Nat.le_refl _)
section
variable{c:Fc}{lab:ag}{S:St}{s:Shared}{target:Expr}
theorem tQ(hh:c.A.handled=none)(I:Inv c lab S s){v:Value}{d:D}{ds:List D}(r:ei c s.heap lab v d)(hd:dN d=some ds){Q:Value→Shared→Prop}{E:Value→Shared→Prop}(hQ:dh c target lab s S ds Q):wpAny (model pw c.x.w) c.A (pyIter v) Q E s:=by
 have push: ∀(o:Obj),Keeps s {s with heap:=s.heap.push o}:=fun o=>ce o;have dR: ∀(o:Obj) (fp:List Addr) (iR:Nat→Heap→Prop) (vals:List Value) (es:List D),(∀c2:Fc,c2.x=c.x→c2.A=c.A→iS c2 c2 target s.heap.objs.size ds (· =s.heap.objs.size) (AB c2.x s.heap.objs.size iR fp vals es c2.G))→(∀i h h',iR i h→(∀b∈fp,∀o,h.get? b=some o→h'.get? b=some o)→iR i h')→(∀b∈fp,b<s.heap.objs.size+1)→
   AB c.x s.heap.objs.size iR fp vals es c.G 0 lab (s.heap.push o)→Q (.ref s.heap.objs.size) {s with heap:=s.heap.push o}:=fun o fp iR vals es it fr lt st=>
  hQ _ fp iR vals es lab s _ fr I (push o) it (fun b hb=>by show b< (s.heap.push o).objs.size;rw [Heap.size_push];exact lt b hb) st (Nat.le_refl _) (by show _< (s.heap.push o).objs.size;rw [Heap.size_push];exact Nat.lt_succ_self _) (Kept.refl _ _) (.refl _)
 cases d with
 |lst l=>
   refine aH hd fun hl hd=> ?_;obtain rfl:=Option.some.inj hd;refine bc fun no=> ?_;obtain ⟨a,vs,n,rfl,h1,h2,h3⟩:=r.lst';refine no ?_;clear no;have hn:=h3.length;rw [Array.length_toList] at hn;have kO:a≠s.heap.objs.size:=Nat.ne_of_lt h1.lt;refine wpAny_pyIter_list (items:=vs) ⟨_,h1.exact,rfl,n,rfl⟩ (dR _ [s.heap.objs.size,a] _ vs.toList l (fun c2 e1 e2=>iS.list (by rw [e2];exact hh) kO vs hn.symm) (Walks.list (prog:=pw) (w:=c.x.w) hh _ a kO vs).frame (fun b hb=>by simp only [List.mem_cons,List.not_mem_nil,or_false] at hb;rcases hb with rfl|rfl;exact Nat.lt_succ_self _;exact Nat.lt_succ_of_lt h1.lt) ⟨⟨⟨⟨_,Heap.get?_push_size _ rfl,rfl,rfl⟩,⟨_,Heap.get?_push_of_some _ h1.exact,rfl,n,rfl⟩⟩,bx I⟩,fun b hb=> ?_,h3.keeps (al (push _))⟩);exact (List.mem_cons.mp hb).elim (fun e=>e▸lJ I) fun hb=>List.mem_singleton.mp hb▸h2
 |tup l=>
   refine aH hd fun hl hd=> ?_;obtain rfl:=Option.some.inj hd;refine bc fun no=> ?_;obtain ⟨a,vs,n,rfl,h1,h2,h3⟩:=r.tup';refine no ?_;clear no;have hn:=h3.length;rw [Array.length_toList] at hn;have kO:a≠s.heap.objs.size:=Nat.ne_of_lt h1.lt;refine wpAny_pyIter_tuple (items:=vs) ⟨_,h1.exact,rfl,n,rfl⟩ (dR _ [s.heap.objs.size,a] _ vs.toList l (fun c2 e1 e2=>iS.tuple (by rw [e2];exact hh) kO vs hn.symm) (Walks.tuple (prog:=pw) (w:=c.x.w) hh _ a kO vs).frame (fun b hb=>by simp only [List.mem_cons,List.not_mem_nil,or_false] at hb;rcases hb with rfl|rfl;exact Nat.lt_succ_self _;exact Nat.lt_succ_of_lt h1.lt) ⟨⟨⟨⟨_,Heap.get?_push_size _ rfl,rfl,rfl⟩,⟨_,Heap.get?_push_of_some _ h1.exact,rfl,n,rfl⟩⟩,bx I⟩,fun b hb=> ?_,h3.keeps (al (push _))⟩);exact (List.mem_cons.mp hb).elim (fun e=>e▸lJ I) fun hb=>List.mem_singleton.mp hb▸h2
 |str x=>
   refine aH hd fun hl hd=> ?_;obtain rfl:=Option.some.inj hd;refine bc fun no=> ?_;obtain ⟨t,rfl⟩:=r.str';refine no ?_;clear no
   cases ha:x.cps.all (· <128)
   ·refine wpAny_pyIter_wide ha (dR _ [s.heap.objs.size] _ [] [] (fun c2 e1 e2=>iS.strW (by rw [e2];exact hh) x t) (Walks.strWide (prog:=pw) (w:=c.x.w) hh _ x t).frame (fun b hb=>by rw [List.mem_singleton] at hb;rw [hb];exact Nat.lt_succ_self _) ⟨⟨⟨_,Heap.get?_push_size _ rfl,rfl,rfl⟩,bx I⟩,fun b hb=> ?_,.nil⟩)
    rw [List.mem_singleton] at hb;subst hb;exact lJ I
   ·refine wpAny_pyIter_ascii ha (dR _ [s.heap.objs.size] _ [] [] (fun c2 e1 e2=>iS.strA (by rw [e2];exact hh) x t) (Walks.strAscii (prog:=pw) (w:=c.x.w) hh _ x t).frame (fun b hb=>by rw [List.mem_singleton] at hb;rw [hb];exact Nat.lt_succ_self _) ⟨⟨⟨_,Heap.get?_push_size _ rfl,rfl,rfl⟩,bx I⟩,fun b hb=> ?_,.nil⟩)
    rw [List.mem_singleton] at hb;subst hb;exact lJ I
 |_=>exact cg hd
theorem tP(hh:c.A.handled=none)(I:Inv c lab S s){n:Int}{t:Tok}(h0:0≤n)(h1:n≤1000000){Q:Value→Shared→Prop}{E:Value→Shared→Prop}(hQ:dh c target lab s S (eR n.toNat) Q):
  wpAny (model pw c.x.w) c.A (call (.type "range") [.int n t]) (fun v s1=>wpAny (model pw c.x.w) c.A (pyIter v) Q E s1) E s:=by
 have hs:Builtin.Range.rangeSize 0 n 1=n:=by rw [rangeSize_one];split<;>lia
 refine call_range_1 ?_;refine wpAny_pyIter_range (IsRange.new s.heap 0 n 1 s.toks t (s.toks+1)) ?_ ?_
 ·unfold Builtin.Range.small Builtin.Range.rangeFitsLong
  rw [hs];simp
  lia
 ·have z:(s.heap.push {cls:=.type "range",data:=.fields #[.int 0 s.toks,.int n t,.int 1 (s.toks+1)]}).objs.size=s.heap.objs.size+1:=Heap.size_push ..
  have K:Keeps s {s with heap:=(s.heap.push {cls:=.type "range",data:=.fields #[.int 0 s.toks,.int n t,.int 1 (s.toks+1)]}).push {cls:=.type "range_iterator",data:=.fields #[rawInt 0,rawInt (Builtin.Range.rangeSize 0 n 1),rawInt 1]},toks:=s.toks+1+1}:=
   ⟨_,_,rfl,fun b o e=>Heap.get?_push_of_some _ (Heap.get?_push_of_some _ e)⟩
  have z2:((s.heap.push {cls:=.type "range",data:=.fields #[.int 0 s.toks,.int n t,.int 1 (s.toks+1)]}).push {cls:=.type "range_iterator",data:=.fields #[rawInt 0,rawInt (Builtin.Range.rangeSize 0 n 1),rawInt 1]}).objs.size=s.heap.objs.size+2:=by rw [Heap.size_push,z]
  refine hQ _ [(s.heap.push {cls:=.type "range",data:=.fields #[.int 0 s.toks,.int n t,.int 1 (s.toks+1)]}).objs.size] _ [] [] lab s _ (Walks.range (prog:=pw) (w:=c.x.w) hh _ 0 1 n.toNat).frame I K (fun c2 e1 e2=>iS.range (by rw [e2];exact hh) n.toNat) (fun b hb=>by rw [List.mem_singleton] at hb;show b<_;rw [hb,z2,z];exact Nat.lt_succ_self _)
   ⟨⟨?_, ?_⟩,fun b hb=> ?_,.nil⟩ (by rw [z];exact Nat.le_succ _) (by show _<_;rw [z2,z];exact Nat.lt_succ_self _) (Kept.refl _ _) (.refl _)
  ·have:=Heap.get?_push_size (s.heap.push {cls:=.type "range",data:=.fields #[.int 0 s.toks,.int n t,.int 1 (s.toks+1)]}) (o:={cls:=.type "range_iterator",data:=.fields #[rawInt 0,rawInt (Builtin.Range.rangeSize 0 n 1),rawInt 1]}) rfl
   rw [hs] at this ⊢;have e1:(0:Int)+ ((0:Nat):Int)*1=0:=rfl;have e2:(n.toNat:Int) - ((0:Nat):Int)=n:=(Int.sub_zero _).trans (Int.toNat_of_nonneg h0);show IsRangeIter _ _ (0+ ((0:Nat):Int)*1) ((n.toNat:Int) - ((0:Nat):Int)) 1;rw [e1,e2];exact this
  ·rw [z];exact Nat.le_trans (bx I) (Nat.le_succ _)
  ·rw [List.mem_singleton] at hb;subst hb
   rw [z];exact I.core.new (Nat.le_succ _)
theorem wk(hh:c.A.handled=none)(I:Inv c lab S s){v:Value}{l:List D}(r:ei c s.heap lab v (.lst l)){elts:List Expr}{k:Nat}{tp:Pos}{Q:Value→Shared→Prop}{E:Value→Shared→Prop}(hQ:cH c (.Tuple elts k tp) lab s S (gX 0 l) Q):
  wpAny (model pw c.x.w) c.A (call (.type "enumerate") [v]) (fun v s1=>wpAny (model pw c.x.w) c.A (pyIter v) Q E s1) E s:=by
 cases r with
 |lst a vs _ n h1 h2 h3=>
 have hn:=h3.length;rw [Array.length_toList] at hn;have AK:=h1.lt;refine call_enumerate_list (items:=vs) ⟨_,h1.exact,rfl,n,rfl⟩ fun h' he nj gP keep=> ?_;have K:Keeps s {s with heap:=h'}:=⟨h',s.toks,rfl,keep⟩;refine wpAny_pyIter_enum he ?_;refine hQ c.G _ _ _ lab _ (I.keeps K) (iS.enum hh (e:=s.heap.objs.size+1) (it:=s.heap.objs.size) (l:=a) (Nat.succ_ne_self _) (Nat.ne_of_lt (Nat.lt_succ_of_lt AK)) (Nat.ne_of_lt AK) vs hn.symm) ⟨⟨_,he⟩,nj,⟨_,keep _ _ h1.exact,rfl,n,rfl⟩,⟨Nat.le_trans (bx I) (Nat.le_succ _),bx I⟩,I.core.new (Nat.le_succ _),lJ I,h2,h3.keeps keep⟩
  lab s (Kept.refl _ _) (fun b e=>by rcases e with rfl|rfl<;>lia) (.of_keeps keep) (.refl _)
end
theorem sF{e:Expr}(h:nI e=true)(env:Env)(x:Value):foldedSetIterable e env x=pure x:=by
 cases e<;>first|rfl|exact nomatch h
section
variable{c:Fc}{lab:ag}{S S':St}{s:Shared}{ns:ab}
theorem d6(O:dq c)(N:aT c ns){x:Str}{l:Loc}{res:bH Unit}(hf:cz ns x l S=some (res,S'))(I:Inv c lab S s){v:Value}(r:bp s.heap c.G lab x v l){A:Around}{Q:Unit→Shared→Prop}{E:Value→Shared→Prop}
  (hQ: ∀s',res= .ok ()→Inv c lab S' s'→Kept lab s.heap lab s'.heap→Q () s'):wpAny (model pw c.x.w) A (storeName c.env x v) Q E s:=by
 refine aH hf fun hk hf=>dY O I ?_ r fun s' I' k=>fX hf fun e1 e2=>hQ s' e1 (e2▸I') k;exact ((Bool.or_eq_true _ _).mp hk).imp (fun h=>N.loc x (beq_iff_eq.mp h)) fun h=>N.cell x (beq_iff_eq.mp h)
theorem cJ{x:Str}{l:Loc}{S S':St}:cz ns x l S≠some (.bad,S'):=fun e=>aH e fun _ e=>fX e fun e1 _=>nomatch e1
theorem eh{t:Expr}{ts:List Expr}{ds:List D}{S:St}{o:bH Unit×St}{P:Prop}(hf:cR ns (t::ts) ds S=some o)(k: ∀x p S1 d nG,ds=d::nG→t= .Name x p→cz ns x (.d d) S=some (.ok (),S1)→cR ns ts nG S1=some o→P):P:=by
 refine ae hf fun q hq hf=> ?_
 cases ds with
 |nil=>exact cg hf
 |cons d ds=>exact nd (r:=o.1) (S':=o.2) hf (fun q _=>absurd q cJ) fun u S1 h1 h2=>k q.1 q.2 S1 d ds rfl (bM hq) h1 h2
theorem ru(O:dq c)(N:aT c ns){A:Around}{Q:Unit→Shared→Prop}{E:Value→Shared→Prop}{res:bH Unit}: ∀(ts:List Expr) (ds:List D) (vs:List Value) (S:St) (s:Shared),cR ns ts ds S=some (res,S')→Inv c lab S s→an s.heap (Rs c.G lab) vs ds→
  (∀s',Inv c lab S' s'→Kept lab s.heap lab s'.heap→Q () s')→wpAny (model pw c.x.w) A (assignInOrder ((assignEach ts c.env).map (·.2)) vs) Q E s:=by
 intro ts
 induction ts with
 |nil=>
  intro ds vs S s hf I rs hQ;refine aH hf fun he hf=> ?_;rw [List.isEmpty_iff.mp he] at rs;rw [rs.nil'];exact wpAny_pure (fX hf fun _ e2=>hQ s (e2▸I) (Kept.refl _ _))
 |cons t ts ih=>
  intro ds vs S s hf I rs hQ;refine eh hf fun x p S1 d nG e1 e2 h1 h2=> ?_;subst e1 e2;obtain ⟨v,vs,rfl,q1,q2⟩:=rs.cons';show wpAny _ _ (holding vs (assign (.Name x p) c.env v)>>=fun _=>assignInOrder ((assignEach ts c.env).map (·.2)) vs) _ _ _;exact wpAny_bind (wpAny_holding (wpAny_assign_Name (d6 O N h1 I (l:=.d d) q1 fun s1 _ I1 k1=>ih nG vs S1 s1 h2 I1 (k1.reps q2) fun s' I' k'=>hQ s' I' (k1.trans k'))))
theorem jR: ∀(ts:List Expr) (ds:List D) (S:St) (o:bH Unit×St),cR ns ts ds S=some o→∀env,(assignEach ts env).length=ds.length∧(assignEach ts env).findIdx? (·.1)=none:=by
 intro ts
 induction ts with
 |nil=>exact fun ds S o hf env=>aH hf fun he _=>⟨(congrArg List.length (List.isEmpty_iff.mp he)).symm,rfl⟩
 |cons t ts ih=>
  intro ds S o hf env;refine eh hf fun x p S1 d nG e1 e2 h1 h2=> ?_;subst e1 e2;obtain ⟨a1,a2⟩:=ih nG S1 o h2 env;refine ⟨congrArg (· +1) a1, ?_⟩;show List.findIdx? (·.1) ((false,assign (.Name x p) env)::assignEach ts env)=none;rw [List.findIdx?_cons,a2];rfl
theorem gK: ∀(ts:List Expr) (ds:List D) (S:St),cR ns ts ds S≠some (.bad,S'):=by
 intro ts
 induction ts with
 |nil=>exact fun ds S e=>aH e fun _ e=>fX e fun e _=>nomatch e
 |cons t ts ih=>exact fun ds S e=>eh e fun _ _ S1 _ nG _ _ _ h2=>ih nG S1 h2
theorem oA{t:Expr}{d:D}{o:bH Unit×St}{P:Prop}(e:bR ns t d S=some o)(k1: ∀x p,t= .Name x p→cz ns x (.d d) S=some o→P)(k2: ∀ts k p ds,t= .Tuple ts k p→d= .tup ds→cR ns ts ds S=some o→P):P:=
 du e (fun _ e=>ae e fun q hq e=>ae e fun ds hd e=>k2 q.1 q.2.1 q.2.2 ds (mC hq) (jH hd) e) fun q hq e=>k1 q.1 q.2 (bM hq) e
theorem ez{t:Expr}{d:D}:bR ns t d S≠some (.bad,S'):=fun e=>oA e (fun _ _ _ h=>cJ h) fun _ _ _ _ _ _ h=>gK _ _ _ h
theorem kA(O:dq c)(N:aT c ns){t:Expr}{d:D}{res:bH Unit}(hf:bR ns t d S=some (res,S'))(I:Inv c lab S s){v:Value}(r:ei c s.heap lab v d){A:Around}(hh:A.handled=none){Q:Unit→Shared→Prop}{E:Value→Shared→Prop}
  (hQ: ∀s',Inv c lab S' s'→Kept lab s.heap lab s'.heap→Q () s'):wpAny (model pw c.x.w) A (assign t c.env v) Q E s:=by
 refine oA hf (fun x p e h=> ?_) fun ts k p ds e1 e2 h=> ?_
 ·subst e
  exact wpAny_assign_Name (d6 O N h I (l:=.d _) r fun s' _=>hQ s')
 ·subst e1 e2
  obtain ⟨a,vs,n,rfl,h1,h2,h3⟩:=aD.tup' r;have hl:=jR ts ds S _ h c.env;refine wpAny_assign_Tuple hh (items:=vs) ⟨_,h1.exact,rfl,n,rfl⟩ (by rw [hl.1, ←h3.length,Array.length_toList]) hl.2 fun h' he=> ?_;have keep: ∀b o,s.heap.get? b=some o→h'.get? b=some o:=fun b o e=>he b o (Nat.ne_of_lt (Heap.lt_size e)) e;have K:Keeps s {s with heap:=h'}:=⟨h',s.toks,rfl,keep⟩;exact ru O N ts ds _ _ _ h (I.keeps K) (h3.keeps keep) fun s' I' k'=>hQ s' I' ((Kept.of_keeps keep).trans k')
end
section
variable{P:Fc→Prop}{r:ba}(H:aY P r){c:Fc}{ns:ab}(hP:P c)(hN:aT c ns)
include H hP hN
theorem kx{f:Str}{T:String}{p pos:Pos}{args:List Expr}{S:St}{lab:ag}{s:Shared}(I:Inv c lab S s)(hg:cG ns f S=true)(ht:bV.lookup f=some (.val (.type T)))(hp:args.all aE=true){Q:Value→Shared→Prop}{E:Value→Shared→Prop}
  (h:wpAny (model pw c.x.w) c.A (spliced (backTo pos (starEach args c.env))) (fun vs s₁=>wpAny (model pw c.x.w) c.A (call (.type T) vs) Q E s₁) E s):wpAny (model pw c.x.w) c.A (eval (.Call (.Name f p) args [] pos) c.env) Q E s:=by
 unfold cG at hg;rw [Bool.and_eq_true] at hg;rw [arm_eval_Call_Name'];have hd:(f== ("__debug__":Str))=false:=by
  cases hq:f== ("__debug__":Str) with
  |false=>rfl
  |true=>
   obtain rfl:=beq_iff_eq.mp hq;have:bV.lookup ("__debug__":Str)=none:=by decide+kernel
   exact nomatch this.symm.trans ht
 refine wpAny_bind (wpAny_Name (dF (H.ok c hP) I (hN.glob f (beq_iff_eq.mp hg.2)) ht fun v rv=> ?_) hd);obtain rfl:v=_:=aD.val' rv;exact pM hp h
end
inductive fJ(ns:ab)(S:St):jP→Expr→Prop where
 |plain (e):fJ ns S .plain e
 |range (fp a pos):cG ns "range" S=true→aE a=true→fJ ns S (.range a) (.Call (.Name "range" fp) [a] [] pos)
 |enum (fp a pos):cG ns "enumerate" S=true→aE a=true→fJ ns S (.enum a) (.Call (.Name "enumerate" fp) [a] [] pos)
 |zip (fp a b pos):cG ns "zip" S=true→aE a=true→aE b=true→fJ ns S (.zip a b) (.Call (.Name "zip" fp) [a,b] [] pos)
theorem zE{ns:ab}{S:St}{x:Str}{a:Expr}{p p':Pos}(h1:cG ns x S=true)(h2:aE a=true):fJ ns S (nL x a) (.Call (.Name x p) [a] [] p'):=by
 unfold nL
 cases hr:x=="range" with
 |true=>obtain rfl:=beq_iff_eq.mp hr;exact .range _ _ _ h1 h2
 |false=>
  cases he:x=="enumerate" with
  |true=>obtain rfl:=beq_iff_eq.mp he;exact .enum _ _ _ h1 h2
  |false=>exact .plain _
theorem zD{ns:ab}{S:St}{x:Str}{a:Expr×Expr}{p p':Pos}(h1:cG ns x S=true)(h2:aE a.1=true)(h3:aE a.2=true):fJ ns S (nK x a) (.Call (.Name x p) [a.1,a.2] [] p'):=by
 unfold nK
 cases hr:x=="zip" with
 |true=>obtain rfl:=beq_iff_eq.mp hr;exact .zip _ _ _ _ h1 h2 h3
 |false=>exact .plain _
theorem uX(ns:ab)(e:Expr)(S:St):fJ ns S (dP ns e S) e:=by
 unfold dP
 cases h:iq e with
 |none=>exact .plain _
 |some q=>
  obtain ⟨p,p',rfl⟩:=iz h;show fJ ns S (bif cG ns q.1 S&&q.2.all aE then (pQ q.2).elim ((lr q.2).elim .plain (nK q.1)) (nL q.1) else .plain) _
  cases hb:cG ns q.1 S&&q.2.all aE with
  |false=>exact .plain _
  |true=>
   obtain ⟨h1,h2⟩:=Bool.and_eq_true_iff.mp hb;show fJ ns S ((pQ q.2).elim ((lr q.2).elim .plain (nK q.1)) (nL q.1)) _
   cases ho:pQ q.2 with
   |some a=>
    rw [dU ho] at h2 ⊢;exact zE h1 (Bool.and_eq_true_iff.mp h2).1
   |none=>
    show fJ ns S ((lr q.2).elim .plain (nK q.1)) _
    cases ht:lr q.2 with
    |none=>exact .plain _
    |some a=>
     rw [iF ht] at h2 ⊢;obtain ⟨h3,h4⟩:=Bool.and_eq_true_iff.mp h2;exact zD h1 h3 (Bool.and_eq_true_iff.mp h4).1
theorem tup_is{t:Expr}(h:qe t=true): ∃elts k tp,t= .Tuple elts k tp:=by
 cases t<;>first|exact ⟨_,_,_,rfl⟩|exact nomatch h
section
variable{P:Fc→Prop}{r:ba}(H:aY P r){c:Fc}{ns:ab}(hP:P c)(hN:aT c ns)
include H hP hN
theorem fD{target e:Expr}{S S':St}{res:bH (List D)}{lab:ag}{s:Shared}(hf:eX r ns e S=some (res,S'))(I:Inv c lab S s){Q:Value→Shared→Prop}{E:Value→Shared→Prop}
  (hQ: ∀ds,res= .ok ds→dh c target lab s S' ds Q) (hE:dl c lab s S' res E):wpAny (model pw c.x.w) c.A (eval e c.env) (fun v s1=>wpAny (model pw c.x.w) c.A (pyIter v) Q E s1) E s:=by
 have O:=H.ok c hP;have hk:=uX ns e S;unfold eX at hf;generalize dP ns e S=kd at hk hf
 cases hk with
 |plain=>
  exact (aM H hP hN e).step hf I hE fun av d S1 lab1 s1 g1 I1 k1 m1 r1 dm=>vt g1 fun ds hd g1=>fX g1 fun e1 e2=>tQ O.handled (e2▸I1) r1 hd (dh.step (hQ _ e1) k1 m1)
 |range fp a pos h2 h3=>
  refine kx H hP hN I h2 (T:="range") (by kernel_rfl) (by rw [List.all_cons,h3];rfl) ?_;rw [bz h3];refine spliced_cons ((aM H hP hN a).step hf I hE fun av d S1 lab1 s1 g1 I1 k1 m1 r1 dm=>spliced_nil (ae g1 fun n hn g1=>aH g1 fun hl g1=> ?_));rw [ia hn] at r1;obtain ⟨t,rfl⟩:=aD.int' r1;exact fX g1 fun e1 e2=>tP O.handled (e2▸I1) hl.1 hl.2 (dh.step (hQ _ e1) k1 m1)
 |_=>exact cg hf
theorem tY(hZ:ic){target e:Expr}{S S':St}{res:bH (List D)}{lab:ag}{s:Shared}(hf:jx r ns target e S=some (res,S'))(I:Inv c lab S s){Q:Value→Shared→Prop}{E:Value→Shared→Prop}
  (hQ: ∀ds,res= .ok ds→cH c target lab s S' ds Q) (hE:dl c lab s S' res E):wpAny (model pw c.x.w) c.A (eval e c.env) (fun v s1=>wpAny (model pw c.x.w) c.A (pyIter v) Q E s1) E s:=by
 have O:=H.ok c hP;have hk:=uX ns e S;unfold jx at hf;generalize MS:dP ns e S=kd at hk hf
 cases hk with
 |plain=>exact fD H hP hN hf I (fun ds e=>(hQ ds e).toC) hE
 |range fp a pos h2 h3=>exact fD H hP hN (target:=target) hf I (fun ds e=>(hQ ds e).toC) hE
 |enum fp a pos h2 h3=>
  refine kx H hP hN I h2 (T:="enumerate") (by kernel_rfl) (by rw [List.all_cons,h3];rfl) ?_;rw [bz h3];refine spliced_cons ((aM H hP hN a).step hf I hE fun av d S1 lab1 s1 g1 I1 k1 m1 r1 dm=>spliced_nil (ae g1 fun l hn g1=>aH g1 fun hl g9=> ?_));rw [hY hn] at r1;refine bc fun no=> ?_;obtain ⟨elts,k,tp,rfl⟩:=tup_is hl.2;refine no ?_;clear no;exact fX g9 fun e1 e2=>wk O.handled (e2▸I1) r1 (cH.step (hQ _ e1) k1 m1)
 |zip fp a b pos h2 h3 h4=>
  refine kx H hP hN I h2 (T:="zip") (by kernel_rfl) (by rw [List.all_cons,List.all_cons,h3,h4];rfl) ?_;rw [bz h3,bz h4];refine spliced_cons ((aM H hP hN a).step hf I hE fun av d S1 lab1 s1 g1 I1 k1 m1 r1 dm=>spliced_cons ((aM H hP hN b).step g1 I1 dm fun bv d' S2 be s2 g2 I2 k2 m2 r2 np=>spliced_nil (ae g2 fun l hl g2=>ae g2 fun l' rW g2=>aH g2 fun hn g9=> ?_)));rw [jH hl] at r1;rw [hY rW] at r2;refine bc fun no=> ?_;obtain ⟨elts,k,tp,rfl⟩:=tup_is hn.2.2;refine no ?_;clear no;exact fX g9 fun e1 e2=>hZ _ _ _ _ _ _ _ _ _ _ _ _ _ O.handled (e2▸I2) (k2.rep r1) r2 hn.1 hn.2.1 (cH.step (cH.step (hQ _ e1) k1 m1) k2 m2)
theorem ot(hZ:ic){target e:Expr}{S S':St}{res:bH (List D)}{lab:ag}{s:Shared}(hf:f9 r ns target e S=some (res,S'))(I:Inv c lab S s){Q:Value→Shared→Prop}{E:Value→Shared→Prop}
  (hQ: ∀ds,res= .ok ds→cH c target lab s S' ds Q) (hE:dl c lab s S' res E):(∀env x,foldedSetIterable e env x=pure x)∧wpAny (model pw c.x.w) c.A (eval e c.env) (fun v s1=>wpAny (model pw c.x.w) c.A (pyIter v) Q E s1) E s:=by
 unfold f9 at hf
 by_cases h:nI e=true
 ·rw [if_pos h] at hf
  exact ⟨sF h,tY H hP hN hZ hf I hQ hE⟩
 ·rw [if_neg h] at hf;exact cg hf
end
theorem mH{n i L:Nat}(h:n+i=L)(hi:i<L):n - 1<n∧n - 1+ (i+1)=L:=by
 have p:0<n:=Nat.pos_of_ne_zero fun e=>Nat.lt_irrefl L (by rw [e,Nat.zero_add] at h;exact h▸hi);exact ⟨Nat.sub_lt p Nat.one_pos,(Nat.add_right_comm (n - 1) i 1).trans ((congrArg (· +i) (Nat.sub_add_cancel p)).trans h)⟩
noncomputable def aU(c:Fc)(h:Heap)(lab:ag):Flow→Fl→Prop
 | .next,.next=>True
 | .cont,.cont=>True
 | .ret v,.ret d=>aD h (Rs c.G lab) v d
 |_,_=>False
@[elab_as_elim] theorem aU.is{c:Fc}{h:Heap}{lab:ag}{P:Flow→Fl→Prop}{f:Flow}{fl:Fl}(r:aU c h lab f fl)(k1:P .next .next)(k2:P .cont .cont)(k3: ∀v d,aD h (Rs c.G lab) v d→P (.ret v) (.ret d)):P f fl:=by
 cases fl<;>cases f<;>first|exact r.elim|exact k1|exact k2|exact k3 _ _ r
theorem bN.refl(lab:ag):bN lab lab:=fun _ e=>e
theorem bN.trans{l1 l2 l3:ag}(x:bN l1 l2)(y:bN l2 l3):bN l1 l3:=fun a e=>y a (x a e)
noncomputable def eD{α β:Type}(c:Fc)(t:Sem α)(f:Ev β)(R:Heap→ag→α→β→Prop):Prop:=
 ∀(S:St) (lab:ag) (s:Shared) (r:bH β) (S':St),f S=some (r,S')→Inv c lab S s→∀(Q:α→Shared→Prop) (E:Value→Shared→Prop),
  (∀a b lab' s',r= .ok b→Inv c lab' S' s'→Kept lab s.heap lab' s'.heap→bN lab lab'→R s'.heap lab' a b→Q a s')→dl c lab s S' r E→
  wpAny (model pw c.x.w) c.A t Q E s
noncomputable def fC{α β:Type}(c:Fc)(lab:ag)(s:Shared)(S':St)(r:bH β)(R:Heap→ag→α→β→Prop)(Q:α→Shared→Prop):Prop:=
 ∀a b lab' s',r= .ok b→Inv c lab' S' s'→Kept lab s.heap lab' s'.heap→bN lab lab'→R s'.heap lab' a b→Q a s'
theorem fC.step{α β:Type}{c:Fc}{lab lab1:ag}{s s1:Shared}{S':St}{r:bH β}{R:Heap→ag→α→β→Prop}{Q:α→Shared→Prop}(h:fC c lab s S' r R Q)(k:Kept lab s.heap lab1 s1.heap)(m:bN lab lab1):fC c lab1 s1 S' r R Q:=
 fun a b lab' s' e I k' m' r'=>h a b lab' s' e I (k.trans k') (m.trans m') r'
theorem eD.step{α β γ:Type}{c:Fc}{t:Sem α}{f:Ev β}{R:Heap→ag→α→β→Prop}(h:eD c t f R){k:β→Ev γ}{S S':St}{lab:ag}{s:Shared}{r:bH γ}(e:Ev.bind f k S=some (r,S'))(I:Inv c lab S s)
  {Q:α→Shared→Prop} {E:Value→Shared→Prop} (hE:dl c lab s S' r E)
  (hk: ∀a b S1 lab1 s1,k b S1=some (r,S')→Inv c lab1 S1 s1→Kept lab s.heap lab1 s1.heap→bN lab lab1→R s1.heap lab1 a b→dl c lab1 s1 S' r E→Q a s1):wpAny (model pw c.x.w) c.A t Q E s:=by
 rcases bind_some e with ⟨q,rfl⟩|⟨b,S1,q,q'⟩
 ·exact h S lab s _ S' q I Q E (fun _ _ _ _ z=>nomatch z) fun e lab' s' _=>hE e lab' s' rfl
 ·exact h S lab s _ S1 q I Q E (fun a b' lab' s' z I' k' lm r'=>by cases z;exact hk a b S1 lab' s' q' I' k' lm r' (hE.step k')) fun _ _ _ z=>nomatch z
noncomputable def lE(P:Fc→Prop)(r:ba):Prop:=∀c ns,P c→c.comp=false→aT c ns→∀st,eD c (exec st c.env) (r.ex ns st) (aU c)
theorem jb{β:Type}{m:Ev β}{S S':St}{o:bH β}(h:quiet m S=some (o,S')): ∃b,o= .ok b∧m S=some (.ok b,S'):=
 ae h fun q h1 h=>gM h fun b h2 h=>⟨b,(congrArg Prod.fst h).symm,h1.trans (congrArg some (Prod.ext (lI h2) (show q.2=S' from congrArg (fun x:bH β×St=>x.2) h)))⟩
theorem fY{α β:Type}{c:Fc}{lab lab':ag}{s s':Shared}{S1 S':St}{r:bH β}{R:Heap→ag→α→β→Prop}{Q:α→Shared→Prop}{a:α}{b:β}(h:fC c lab s S' r R Q)(e:some (bH.ok b,S1)=some (r,S'))(I:Inv c lab' S1 s')(k:Kept lab s.heap lab' s'.heap)(m:bN lab lab')(q:R s'.heap lab' a b):Q a s':=
 fX e fun e1 e2=>h a b lab' s' e1 (e2▸I) k m q
theorem lK{c:Fc}{lab:ag}{s:Shared}{S':St}{β:Type}{b:β}{E:Value→Shared→Prop}:dl c lab s S' (bH.ok b) E:=fun _ _ _ e=>nomatch e
section
variable{P:Fc→Prop}{r:ba}(H:aY P r)(HX:lE P r){c:Fc}{ns:ab}(hP:P c)(hc:c.comp=false)(hN:aT c ns)
include H HX hP hc hN
theorem i5(Mn:List Stmt):eD c (execs Mn c.env) (lj r ns Mn) (aU c):=by
 induction Mn with
 |nil=>exact fun S lab s res S' hf I Q E hQ hE=>wpAny_execs_nil (fY (R:=aU c) (b:=.next) hQ hf I (Kept.refl _ _) (bN.refl _) trivial)
 |cons st rest ih=>
  refine fun S lab s res S' hf I Q E hQ hE=>wpAny_execs_cons ((HX c ns hP hc hN st).step hf I hE fun f fl S1 lab1 s1 h1 I1 k1 m1 r1 dm=> ?_);revert h1;refine aU.is r1 ?_ ?_ ?_
  ·intro h1;exact ih S1 lab1 s1 res S' h1 I1 Q E (fC.step hQ k1 m1) dm
  ·intro h1;exact fY (R:=aU c) (b:=.cont) hQ h1 I1 k1 m1 trivial
  ·intro v d rv h1;exact fY (R:=aU c) (b:=.ret d) hQ h1 I1 k1 m1 rv
theorem Hv(fn:au)(t:Expr)(a b:List Stmt)(p:Pos):eD c (exec (.If t a b p) c.env) (vp r ns (.If t a b p)) (aU c):=by
 intro S lab s res S' hf I Q E hQ hE;replace hf:Ev.bind (r.evT ns t) (fun c=>if c then lj r ns a else lj r ns b) S=some (res,S'):=hf;refine wpAny_If ((H.evT c ns hP hN t).step hf I hE fun b1 b2 S1 lab1 s1 h1 I1 k1 m1 r1 dm=> ?_)
 cases (show b1=b2 from r1)
 cases b1
 ·exact i5 H HX hP hc hN b S1 lab1 s1 res S' h1 I1 Q E (fC.step hQ k1 m1.2) dm
 ·exact i5 H HX hP hc hN a S1 lab1 s1 res S' h1 I1 Q E (fC.step hQ k1 m1.2) dm
theorem yY(t:Expr)(body:List Stmt)(p:Pos):eD c (exec (.While t body [] p) c.env) (vp r ns (.While t body [] p)) (aU c):=by
 intro S lab s res S' hf I Q E hQ hE;refine bc fun no=> ?_;obtain ⟨fl,rfl,hw⟩:=jb (m:=eJ r ns t body df) hf;refine no ?_;clear no;refine wpAny_While (codeAny_whileLoop (fun n s'=>∃lab' S1,eJ r ns t body n S1=some (.ok fl,S')∧Inv c lab' S1 s'∧Kept lab s.heap lab' s'.heap∧bN lab lab') ?_ df ⟨lab,S,hw,I,Kept.refl _ _,bN.refl _⟩)
 rintro n s1 ⟨lab1,S1,h1,I1,k1,m1⟩
 cases n with
 |zero=>exact cg h1
 |succ n=>
 refine (H.evT c ns hP hN t).step h1 I1 lK fun b1 b2 S2 be s2 h2 I2 k2 m2 r2 np=> ?_
 cases (show b1=b2 from r2)
 cases b1
 ·exact wpAny_execs_nil (fY (R:=aU c) (b:=.next) hQ h2 I2 (k1.trans k2) (m1.trans m2.2) trivial)
 ·refine (i5 H HX hP hc hN body).step h2 I2 lK fun f SP S3 iW s3 h3 I3 k3 m3 r3 Md=> ?_
  have kk:=(k1.trans k2).trans k3;have mm:=(m1.trans m2.2).trans m3;revert h3;refine aU.is r3 ?_ ?_ ?_
  ·intro h3;exact ⟨n,Nat.lt_succ_self _,iW,S3,h3,I3,kk,mm⟩
  ·intro h3;exact ⟨n,Nat.lt_succ_self _,iW,S3,h3,I3,kk,mm⟩
  ·intro v d rv h3;exact fY (R:=aU c) (b:=.ret d) hQ h3 I3 kk mm rv
theorem EV(hZ:ic)(target iter:Expr)(body:List Stmt)(p:Pos):eD c (exec (.For target iter body [] p) c.env) (vp r ns (.For target iter body [] p)) (aU c):=by
 intro S lab s res S' hf I Q E hQ hE;refine nd hf (fun q e=> ?_) fun ds S1 q hf=>aH hf fun _ hf=> ?_
 ·have R:=ot H hP hN hZ (target:=target) q I (Q:=fun it s2=>codeAny (model pw c.x.w) c.A (.forLoop target it body [] c.env) (fun r s'=>match r with| .ok f=>Q f s'| .error e=>cameBackBy (model pw c.x.w) c.A c.env E e s') s2) (E:=E)
   (fun _ e=>nomatch e) fun e1 lab' s' _=>hE e1 lab' s' e
  exact wpAny_For R.2 (R.1 c.env)
 refine bc fun no=> ?_;obtain ⟨fl,rfl,MK⟩:=jb hf;refine no ?_;clear no;have body_ok:cH c target lab s S1 ds (fun it s2=>codeAny (model pw c.x.w) c.A (.forLoop target it body [] c.env) (fun r s'=>match r with| .ok f=>Q f s'| .error e=>cameBackBy (model pw c.x.w) c.A c.env E e s') s2):=by
  intro G1 It W St lab1 s1 I1 it st bS s0 k0 hw k1 m1;have PZ:=H.grow c G1 hP;have P0:aT {c with G:=G1} ns:=hN.withG G1;refine codeAny_forLoop_any (fun n s'=>∃i lab' S2,n+i=ds.length∧forLoop r ns target body (ds.drop i) S2=some (.ok fl,S')∧Inv (withG c G1) lab' S2 s'∧St i lab' s'.heap∧Kept bS s0.heap lab' s'.heap∧bN lab lab') ?_ ds.length
   ⟨0,lab1,S1,rfl,by rw [List.drop_zero];exact MK,I1,st,k1,m1.2⟩
  rintro n s2 ⟨i,be,S2,hn,h2,I2,F7,k2,m2⟩
  have nM: ∀{s3 s4:Shared} {iW:ag},Kept bS s0.heap iW s3.heap→(∀b o,¬W b→s3.heap.get? b=some o→s4.heap.get? b=some o)→Kept bS s0.heap iW s4.heap:=fun kk hh a o e q z=>by
   refine bc fun no=> ?_;obtain ⟨⟨sl,q1,q2⟩,q3⟩:=kk a o e q z;refine no ?_;clear no;exact ⟨⟨sl,hh a _ (fun w=>Nat.lt_irrefl _ (Nat.lt_of_lt_of_le (Heap.lt_size q) (hw a w))) q1,q2⟩,q3⟩
  cases hd:ds[i]? with
  |none=>
   obtain rfl:i=ds.length:=Nat.le_antisymm (hn▸Nat.le_add_left _ _) (List.getElem?_eq_none_iff.mp hd);rw [List.drop_length] at h2;exact it.last be _ s2 _ _ I2 F7 fun s3 I3 kw=>wpAny_execs_nil (fY (R:=aU c) (b:=.next) hQ h2 I3 (k0.trans (nM k2 kw)) m2 trivial)
  |some d=>
   obtain ⟨hi,M3⟩:=List.getElem?_eq_some_iff.mp hd;rw [List.drop_eq_getElem_cons hi,M3] at h2;refine it.item i be S2 s2 d _ _ hd I2 F7 fun v s3 I3 kw go=>go _ _ fun s4 I4 rU Mo rv=>nd h2 (fun q _=>absurd q ez) fun u S3 q q'=> ?_;have k4:=nM (nM k2 kw) rU;refine kA (c:=withG c G1) (H.ok _ PZ) P0 q I4 rv (H.ok c hP).handled fun s5 I5 k5=>(i5 H HX PZ hc P0 body).step q' I5 lK fun f SP S6 AX s6 h6 I6 k6 m6 r6 Sw=> ?_;have F6:=it.kept _ _ _ _ _ k6 (it.kept _ _ _ _ _ k5 Mo);have kk:=(k4.trans k5).trans k6;have Dd:=mH hn hi;revert h6;refine aU.is r6 ?_ ?_ ?_
   ·intro h6;exact ⟨n - 1,Dd.1,i+1,AX,S6,Dd.2,h6,I6,F6,kk,m2.trans m6⟩
   ·intro h6;exact ⟨n - 1,Dd.1,i+1,AX,S6,Dd.2,h6,I6,F6,kk,m2.trans m6⟩
   ·intro v d rv h6;exact fY (R:=aU c) (b:=.ret d) hQ h6 (it.free _ _ _ _ I6 F6) (k0.trans kk) (m2.trans m6) (ma (fun a h=>it.sub a h) rv)
 have R:=ot H hP hN hZ (target:=target) q I (Q:=fun it s2=>codeAny (model pw c.x.w) c.A (.forLoop target it body [] c.env) (fun r s'=>match r with| .ok f=>Q f s'| .error e=>cameBackBy (model pw c.x.w) c.A c.env E e s') s2) (E:=E)
  (fun nG e=>by injection e with e;exact e▸body_ok) (fun e lab' s' q=>nomatch q)
 exact wpAny_For R.2 (R.1 c.env)
end
theorem yW{v:Expr}(h:gq v=true)(t:Option Expr)(n:Nat)(env:Env):swapsWith v t n env=pure false:=by
 cases v<;>first|rfl|exact nomatch h
theorem mM{c:Fc}{ns:ab}(N:aT c ns)(line:Nat)(ts:List Expr): ∀{names:List Str},ju ns line ts=some names→∀f:Expr→Option Str,(∀id pos,f (.Name id pos)=if (c.env.kindOf id==some .local&&pos.line==line)=true then some id else none)→
  ts.filterMap f=names∧names.length=ts.length:=by
 induction ts with
 |nil=>exact fun e f hf=>Option.some.inj e▸⟨rfl,rfl⟩
 |cons t ts ih=>
  refine fun e f hf=>ae e fun q hq e=>aH e fun hc e=>gM e fun r hr e9=> ?_;obtain rfl:=bM hq;subst e9;obtain ⟨h1,h2⟩:=ih hr f hf;obtain ⟨h3,h4⟩:=Bool.and_eq_true_iff.mp hc;refine ⟨?_,congrArg (· +1) h2⟩;rw [List.filterMap_cons,(hf q.1 q.2).trans (if_pos (by rw [N.loc q.1 (beq_iff_eq.mp h3),beq_self_eq_true,h4];rfl))];exact congrArg (q.1:: ·) h1
theorem vN{f:Expr→Bool}(hf: ∀e,aE e=true→f e=false){vs:List Expr}(h:vs.all aE=true): ¬(vs.any f=true):=by
 intro z;obtain ⟨x,hx,hy⟩:=List.any_eq_true.mp z;exact Bool.false_ne_true ((hf x (List.all_eq_true.mp h x hx)).symm.trans hy)
theorem tg{c:Fc}{ns:ab}(O:dq c)(N:aT c ns){ts:List Expr}{k:Nat}{p:Pos}{v:Expr}{b:Bool}(e:kV ns ts v=some b)(n:Nat):
  swapsWithSole [.Tuple ts k p] v n c.env=pure false∧(b=false→swappedStores [.Tuple ts k p] v c.env=pure none)∧(b=true→∃names line,ju ns line ts=some names∧swappedStores [.Tuple ts k p] v c.env=pure (some names)):=by
 refine ⟨by cases v<;>rfl,du e (fun h0 e=>iP e (fun _ e=>cg e) fun hl e=> ?_) fun q hq e=>aH e fun R6 e=>ae e fun names hn e=>aH e fun he e9=> ?_⟩
 ·refine ⟨fun _=> ?_,fun z=> ?_⟩
  ·cases v<;>first|rfl|exact nomatch h0|exact absurd rfl hl
  ·rw [z] at e;exact nomatch e
 ·obtain rfl:=mC hq
  obtain ⟨AN,hp⟩:=Bool.and_eq_true_iff.mp R6;obtain ⟨hl,aP⟩:=Bool.and_eq_true_iff.mp AN;have h2:=(mM N _ ts hn (fun e=>match e with| .Name id pos=>if (c.env.kindOf id==some .local&&pos.line== ((ts.head?.map (·.pos.line)).getD 0))=true then some id else none|_=>none) (fun _ _=>rfl)).2;have bk:c.env.blockKind= .function:=by unfold Env.blockKind;rw [O.kind];rfl
  have key: ∀r,(if q.1.all (foldedForSure 8)=true then r=pure none else q.1.all (constantsAlone 8)=false∧r=pure (some names))→swappedStores [.Tuple ts k p] (.Tuple q.1 q.2.1 q.2.2) c.env=r:=by
   intro r hr;unfold swappedStores;dsimp only;have c1:(!(ts.length==2||ts.length==3)||q.1.length !=ts.length||c.env.blockKind != .function)=false:=by
    rw [bk,hl,bne,aP];rfl
   refine (if_neg (by rw [c1];decide)).trans ((if_neg (vN (fun e he=>by cases e<;>first|rfl|exact nomatch he) hp)).trans ?_);rw [(mM N _ ts hn _ ?hF).1]
   case hF=>intro id pos;rfl
   refine (if_neg ?_).trans ?_
   ·rw [h2] at he ⊢;rw [bne_self_eq_false,Bool.false_or,bne,he];exact Bool.false_ne_true
   by_cases hf:q.1.all (foldedForSure 8)=true
   ·rw [if_pos hf] at hr;rw [hr,if_pos hf]
   ·rw [if_neg hf] at hr;rw [hr.2,if_neg hf,if_neg (by rw [hr.1];decide)]
  refine iP e9 (fun hf e=> ?_) fun hf e=>iP e (fun _ e=>cg e) fun hk e=> ?_
  ·exact ⟨fun _=>key _ (by rw [if_pos hf]),fun z=>by rw [z] at e;exact nomatch e⟩
  ·exact ⟨fun z=>by rw [z] at e;exact (nomatch e),fun _=>⟨names,_,hn,key _ (by rw [if_neg hf];exact ⟨Bool.eq_false_iff.mpr hk,rfl⟩)⟩⟩
theorem nB{ns:ab}{line:Nat}{env:Env}(ts:List Expr): ∀{names:List Str},ju ns line ts=some names→∃ps:List Pos,ts= (names.zip ps).map (fun x=>Expr.Name x.1 x.2)∧ps.length=names.length:=by
 induction ts with
 |nil=>exact fun e=>Option.some.inj e▸⟨[],rfl,rfl⟩
 |cons t ts ih=>
  refine fun e=>ae e fun q hq e=>aH e fun _ e=>gM e fun r hr e9=> ?_;refine bc fun no=> ?_;obtain ⟨ps,h1,h2⟩:=ih hr;refine no ?_;clear no;exact e9▸⟨q.2::ps,by rw [bM hq,h1];rfl,congrArg (· +1) h2⟩
section
variable{c:Fc}{lab:ag}{S':St}{ns:ab}
theorem Ab(O:dq c)(N:aT c ns){A:Around}{Q:Unit→Shared→Prop}{E:Value→Shared→Prop}{res:bH Unit}: ∀(xs:List (Str×Pos)) (ds:List D) (vs:List Value) (S:St) (s:Shared),cR ns (xs.map fun x=>Expr.Name x.1 x.2) ds S=some (res,S')→Inv c lab S s→an s.heap (Rs c.G lab) vs ds→
  (∀s',Inv c lab S' s'→Kept lab s.heap lab s'.heap→Q () s')→wpAny (model pw c.x.w) A (assignInOrder (xs.map fun x=>bindName c.env x.1) vs) Q E s:=by
 intro xs
 induction xs with
 |nil=>
  intro ds vs S s hf I rs hQ;refine aH hf fun he hf=> ?_;rw [List.isEmpty_iff.mp he] at rs;rw [rs.nil'];exact wpAny_pure (fX hf fun _ e2=>hQ s (e2▸I) (Kept.refl _ _))
 |cons t ts ih=>
  intro ds vs S s hf I rs hQ;refine eh hf fun x p S1 d nG e1 e2 h1 h2=> ?_;obtain rfl:t.1=x:=by injection e2
  subst e1;obtain ⟨v,vs,rfl,q1,q2⟩:=rs.cons';show wpAny _ _ (holding vs (bindName c.env t.1 v)>>=fun _=>assignInOrder (ts.map fun x=>bindName c.env x.1) vs) _ _ _;exact wpAny_bind (wpAny_holding (wpAny_bindName (d6 O N h1 I (l:=.d d) q1 fun s1 _ I1 k1=>ih nG vs S1 s1 h2 I1 (k1.reps q2) fun s' I' k'=>hQ s' I' (k1.trans k'))))
end
section
variable{P:Fc→Prop}{r:ba}(H:aY P r){c:Fc}{ns:ab}(hP:P c)(hc:c.comp=false)(hN:aT c ns)
include H hP hc hN
theorem EU(e:Expr)(p:Pos):eD c (exec (.Return (some e) p) c.env) (vp r ns (.Return (some e) p)) (aU c):=by
 intro S lab s res S' hf I Q E hQ hE;replace hf:Ev.bind (fe r ns e) (fun d=>.pure (.ret d)) S=some (res,S'):=hf;refine wpAny_Return_some ((aM H hP hN e).step hf I hE fun a d S1 lab1 s1 h1 I1 k1 m1 r1 dm=> ?_);exact fY (R:=aU c) (b:=.ret d) hQ h1 I1 k1 m1.2 r1
theorem Bx(p:Pos):eD c (exec (.Return none p) c.env) (vp r ns (.Return none p)) (aU c):=by
 intro S lab s res S' hf I Q E hQ hE;exact wpAny_Return_none (fY (R:=aU c) (b:=.ret .none) hQ hf I (Kept.refl _ _) (bN.refl _) aD.none)
theorem By(p:Pos):eD c (exec (.Continue p) c.env) (vp r ns (.Continue p)) (aU c):=by
 intro S lab s res S' hf I Q E hQ hE;exact wpAny_Continue (fY (R:=aU c) (b:=.cont) hQ hf I (Kept.refl _ _) (bN.refl _) trivial)
theorem set_plain{x:Str}{xp:Pos}{v:Expr}{p:Pos}(hv:gq v=true):eD c (exec (.Assign [.Name x xp] v p) c.env) (Ev.bind (fe r ns v) (fun d=>Ev.bind (cz ns x (.d d)) fun _=>.pure .next)) (aU c):=by
 intro S lab s res S' hf I Q E hQ hE;exact wpAny_Assign_Name ((aM H hP hN v).step hf I hE fun a d S1 lab1 s1 h1 I1 k1 m1 r1 dm=>nd h1 (fun q _=>absurd q cJ) fun u S2 q q'=>d6 (H.ok c hP) hN q I1 (l:=.d d) r1 fun s' _ I' k'=>fY (R:=aU c) (b:=.next) hQ q' I' (k1.trans k') m1.2 trivial) (yW hv _ _ _)
theorem set_own{x:Str}{xp lp:Pos}{p:Pos}(hx:ns.lookup x=some .local):eD c (exec (.Assign [.Name x xp] (.List [] lp) p) c.env) (Ev.bind (cz ns x (.own [])) (fun _=>.pure .next)) (aU c):=by
 intro S lab s res S' hf I Q E hQ hE;refine nd hf (fun q _=>absurd q cJ) fun u S2 q q'=>aH q fun _ q=>fX q fun _ e2=> ?_;subst e2;refine wpAny_Assign_Name (wpAny_List_spliced (spliced_nil ⟨Nat.zero_le _, ?_⟩)) rfl;have I0:=I.unlLoc (x:=x) (ρ:=S.ρ.filter (·.1 !=x)) (fun y m e=>iU _ _ _ _ e);obtain ⟨I1,k1⟩:=I0.newLab (L:=.loc x) (o:={cls:=.type "list",data:=.seq ([]:List Value).toArray}) (fun a e=>(aK.mp e).2 rfl) (by simp) rfl rfl;have ha:At (s.heap.push {cls:=.type "list",data:=.seq ([]:List Value).toArray}) s.heap.objs.size (.type "list") none (.seq ([]:List Value).toArray 0):=.of (Heap.get?_push_size _ rfl);have hl:cy s.heap.objs.size (.loc x) (unl (.loc x) lab) s.heap.objs.size=some (.loc x):=if_pos rfl;refine dY (H.ok c hP) I1 (l:=.own []) (.inl (hN.loc x hx)) ⟨_,_,_,rfl,hl,ha,.nil⟩ fun s' I' k'=> ?_;refine fY (R:=aU c) (b:=.next) hQ q' (I'.rho (ρ:=upd S.ρ x (.own [])) fun y l e=> ?_) ((jB.trans k1).trans k') (fun a e=> ?_) trivial
 ·rw [aN] at e ⊢
  by_cases hy:y=x
  ·subst hy;rw [if_pos (beq_self_eq_true _)] at e ⊢;exact e
  ·rw [if_neg (mt beq_iff_eq.mp hy)] at e ⊢
   exact iA _ _ _ _ hy e
 ·unfold cy
  split
  ·rename_i hq
   subst hq;exact absurd (.inr (by rw [e];exact fun e=>nomatch e)) (I.core.new (Nat.le_refl _))
  ·exact aK.mpr ⟨e,fun e=>nomatch e⟩
theorem BE{ts:List Expr}{k:Nat}{tp p:Pos}{v:Expr}:eD c (exec (.Assign [.Tuple ts k tp] v p) c.env) (nR r ns ts k tp v) (aU c):=by
 intro S lab s res S' hf I Q E hQ hE;have O:=H.ok c hP;refine ae hf fun b hk hf=> ?_;refine bc fun no=> ?_;obtain ⟨h1,h2,h3⟩:=tg O hN (k:=k) (p:=tp) hk p.line;refine no ?_;clear no
 cases b with
 |false=>exact Assign_Tuple ((aM H hP hN v).step hf I hE fun a d S1 lab1 s1 g1 I1 k1 m1 r1 dm=>nd g1 (fun q _=>absurd q ez) fun u S2 q q'=>kA O hN q I1 r1 O.handled fun s' I' k'=>fY (R:=aU c) (b:=.next) hQ q' I' (k1.trans k') m1.2 trivial) h1 (h2 rfl)
 |true=>
   refine bc fun no=> ?_;obtain ⟨names,line,hn,hs⟩:=h3 rfl;refine no ?_;clear no;refine Assign_Tuple_swapped (names:=names) ((aM H hP hN v).step hf I hE fun a d S1 lab1 s1 g1 I1 k1 m1 r1 dm=>ae g1 fun ds Ax g1=>nd g1 (fun q _=>absurd q (gK _ _ _)) fun u S2 q q'=> ?_) h1 hs;refine bc fun no=> ?_;obtain rfl:=jH Ax;obtain ⟨ps,e1,e2⟩:=nB (env:=c.env) _ hn;obtain ⟨a,vs,n,rfl,j1,j2,j3⟩:=aD.tup' r1;refine no ?_;clear no;have hl:=(jR _ _ _ _ q c.env).1;have aP:names.length=vs.size:=by
    have z1:(assignEach ts.reverse c.env).length=ts.length:=by
     rw [e1, ←List.map_reverse];have: ∀(l:List (Str×Pos)),(assignEach (l.map fun x=>Expr.Name x.1 x.2) c.env).length=l.length:=fun l=>by
      induction l with
      |nil=>rfl
      |cons a l ih=>exact congrArg (· +1) ih
     rw [this,List.length_reverse, ←List.length_map (as:=names.zip ps) (f:=fun x=>Expr.Name x.1 x.2), ←e1]
    have z2:ts.length=names.length:=by rw [e1,List.length_map,List.length_zip,e2,Nat.min_self]
    rw [←z2, ←z1,hl,List.length_reverse, ←j3.length,Array.length_toList]
   rw [aP];refine wpAny_unpackItems_tuple O.handled ⟨_,j1.exact,rfl,n,rfl⟩ fun h' he=> ?_;have keep: ∀b o,s1.heap.get? b=some o→h'.get? b=some o:=fun b o e=>he b o (Nat.ne_of_lt (Heap.lt_size e)) e;have K:Keeps s1 {s1 with heap:=h'}:=⟨h',s1.toks,rfl,keep⟩;have e3:names.reverse.map (fun n=>bindName c.env n)= ((names.zip ps).reverse).map (fun x=>bindName c.env x.1):=by
    rw [List.map_reverse,List.map_reverse];have: ∀(l:List Str) (q:List Pos),q.length=l.length→l.map (fun n=>bindName c.env n)= (l.zip q).map (fun x=>bindName c.env x.1):=fun l=>by
     induction l with
     |nil=>intro q _;rfl
     |cons a l ih=>intro q hq;cases q with
      |nil=>exact nomatch hq
      |cons b q=>exact congrArg (_:: ·) (ih q (Nat.succ.inj hq))
    rw [this names ps e2]
   rw [e3];rw [e1, ←List.map_reverse] at q;exact Ab O hN _ _ _ _ _ q (I1.keeps K) (j3.keeps keep).reverse fun s' I' k'=>fY (R:=aU c) (b:=.next) hQ q' I' (k1.trans ((Kept.of_keeps keep).trans k')) m1.2 trivial
end
section
variable{c:Fc}{lab:ag}{S:St}{s:Shared}
theorem rF{β:Type}{l:List (Str×β)}{x y:Str}{b:β}(e:(upd l x b).lookup y=none):l.lookup y=none:=by
 rw [aN] at e
 by_cases hy:(y==x)=true
 ·rw [if_pos hy] at e;exact nomatch e
 ·rw [if_neg hy] at e;exact e
theorem qM{S:St}{x:Str}{l:List D}(h:gH S x=some l):S.ρ.lookup x=some (.own l):=ae h fun _ h1 h2=>og h2▸h1
theorem n9(I:Inv c lab S s){x:Str}{a:Addr}{l l':List D}(hx:c.env.kindOf x=some .local)(hl:lab a=some (.loc x))(hS:S.ρ.lookup x=some (.own l)){h':Heap}{t:Nat}(hs:Heap.SameBut a s.heap h'){vs:Array Value}{n:Nat}
  (ha:At h' a (.type "list") none (.seq vs n)) (r:an h' (Rs c.G lab) vs.toList l'):Inv c lab {S with ρ:=upd S.ρ x (.own l')} {s with heap:=h',toks:=t}∧Kept lab s.heap lab h':=by
 refine ⟨?_,bL hl hs⟩;refine bc fun no=> ?_;obtain ⟨cl,es,nn,h1,h2,h3,h4⟩:=I.frame;obtain ⟨v0,e0,a0,LS,n0,rfl,rV,Ay,r0⟩:=h4 x _ hS hx;obtain rfl:a=a0:=I.core.inj _ _ _ hl rV;refine no ?_;clear no;refine ⟨I.core.same hl hs ha (fun e=>nomatch e) (fun vs e=>nomatch e) (fun c' d' y' q=>(Ay.same q).1) (fun _ _ _ q=>.inr (by rw [← (Ay.same q).2.2];exact fun vs e=>nomatch e)),I.isFrame,⟨cl,es,nn,aR hl hs h1 (by rw [I.isFrame];exact fun e=>nomatch e),h2,h3,fun y m e q=> ?_⟩,fun y m e q=> ?_,fun hc y e=> ?_,kj hl hs I.slot rfl⟩
 ·rw [aN] at e
  by_cases hy:y=x
  ·subst hy
   rw [if_pos (beq_self_eq_true _)] at e;exact Option.some.inj e▸⟨_,e0,a,vs,n,rfl,hl,ha,r⟩
  ·rw [if_neg (mt beq_iff_eq.mp hy)] at e
   refine bc fun no=> ?_;obtain ⟨v,h5,h6⟩:=h4 y m e q;refine no ?_;clear no;exact ⟨v,h5,bQ hl hs h6 (fun e=>hy (by injection e))⟩
 ·rw [aN] at e
  by_cases hy:y=x
  ·subst hy;exact absurd hx q
  ·rw [if_neg (mt beq_iff_eq.mp hy)] at e
   refine bc fun no=> ?_;obtain ⟨k1,b,v,k2,k3,k4,k5,k6⟩:=I.cells y m e q;refine no ?_;clear no;refine ⟨k1,b,v,k2,k3,k4,aR hl hs k5 ?_,bQ hl hs k6 (fun e=>hy (by injection e))⟩
   cases lh:c.comp with
   |true=>rw [I.core.disj b (k3 lh)];exact fun e=>nomatch e
   |false=>rw [k4 lh];exact fun e=>nomatch e
 ·refine bc fun no=> ?_
  obtain ⟨b,v,k1,k2,k3⟩:=I.bare hc y e;refine no ?_;clear no;exact ⟨b,v,k1,k2,aR hl hs k3 (by rw [k2];exact fun e=>nomatch e)⟩
theorem tD(I:Inv c lab S s){f:Str}{C a:Addr}{fs:List (Str×FV)}{l l':List D}(hσ:S.σ=some (.inst C fs))(hl:lab a=some (.fld f))(hS:fs.lookup f=some (.own l)){h':Heap}{t:Nat}(hs:Heap.SameBut a s.heap h'){vs:Array Value}{n:Nat}
  (ha:At h' a (.type "list") none (.seq vs n)) (r:an h' (Rs c.G lab) vs.toList l'):Inv c lab {S with σ:=some (.inst C (upd fs f (.own l')))} {s with heap:=h',toks:=t}∧Kept lab s.heap lab h':=by
 refine ⟨?_,bL hl hs⟩;have gQ:=I.slot;rw [hσ] at gQ;refine bc fun no=> ?_;obtain ⟨x,dx,es,m,g1,g2,g3,g4,g5,g6,g7⟩:=gQ;obtain ⟨v0,e0,a0,LS,n0,rfl,rV,Ay,r0⟩:=g7 f _ hS;obtain rfl:a=a0:=I.core.inj _ _ _ hl rV;refine no ?_;clear no;refine ⟨I.core.same hl hs ha (fun e=>nomatch e) (fun vs e=>nomatch e) (fun c' d' y' q=>(Ay.same q).1) (fun _ _ _ q=>.inr (by rw [← (Ay.same q).2.2];exact fun vs e=>nomatch e)),I.isFrame, ?_,fun y m e q=> ?_,fun hc y e=> ?_, ?_⟩
 ·refine bc fun no=> ?_
  obtain ⟨cl,es,nn,h1,h2,h3,h4⟩:=I.frame;refine no ?_;clear no;exact ⟨cl,es,nn,aR hl hs h1 (by rw [I.isFrame];exact fun e=>nomatch e),h2,h3,fun y m e q=>let ⟨v,h5,h6⟩:=h4 y m e q;⟨v,h5,bQ hl hs h6 (fun e=>nomatch e)⟩⟩
 ·refine bc fun no=> ?_
  obtain ⟨k1,b,v,k2,k3,k4,k5,k6⟩:=I.cells y m e q;refine no ?_;clear no;refine ⟨k1,b,v,k2,k3,k4,aR hl hs k5 ?_,bQ hl hs k6 (fun e=>nomatch e)⟩
  cases lh:c.comp with
  |true=>rw [I.core.disj b (k3 lh)];exact fun e=>nomatch e
  |false=>rw [k4 lh];exact fun e=>nomatch e
 ·refine bc fun no=> ?_
  obtain ⟨b,v,k1,k2,k3⟩:=I.bare hc y e;refine no ?_;clear no;exact ⟨b,v,k1,k2,aR hl hs k3 (by rw [k2];exact fun e=>nomatch e)⟩
 ·refine ⟨x,dx,es,m,g1,g2,aR hl hs g3 (by rw [g1];exact fun e=>nomatch e),aR hl hs g4 (by rw [g2];exact fun e=>nomatch e),g5,⟨Nat.le_trans g6.1 (i8 _ _ _),fun y e=>g6.2 y (rF e)⟩,fun y b e=> ?_⟩
  rw [aN] at e
  by_cases hy:y=f
  ·subst hy
   rw [if_pos (beq_self_eq_true _)] at e;exact Option.some.inj e▸⟨_,e0,a,vs,n,rfl,hl,ha,r⟩
  ·rw [if_neg (mt beq_iff_eq.mp hy)] at e
   refine bc fun no=> ?_;obtain ⟨v,h5,h6⟩:=g7 y b e;refine no ?_;clear no;exact ⟨v,h5,kY hl hs h6 (fun e=>hy (by injection e))⟩
theorem eZ{h:Heap}{a:Addr}{items:Array Value}{n:Nat}(x:IsL h a items n)(f:Array Value→Array Value):Heap.SameBut a h (h.update a (Obj.mapSeq f))∧∃n',At (h.update a (Obj.mapSeq f)) a (.type "list") none (.seq (f items) n'):=
 ⟨Heap.SameBut.update ..,_,.of (x.update f)⟩
end
section
variable{P:Fc→Prop}{r:ba}(H:aY P r){c:Fc}{ns:ab}(hP:P c)(hc:c.comp=false)(hN:aT c ns)
include H hP hc hN
theorem vP{x m:Str}{xp ap p sp:Pos}{a:Expr}(hx:ns.lookup x=some .local)(hd:(x== ("__debug__":Str))=false)(hl:(ap.endLine==p.line)=true)(ha:aE a=true){many:Bool}(hm:m=if many then "extend" else "append")
  {S S':St} {res:bH Fl} {lab:ag} {s:Shared} (ho:(gH S x).isSome=true) (hf:eW r ns x many a S=some (res,S')) (I:Inv c lab S s) {Q:Flow→Shared→Prop} {E:Value→Shared→Prop} (hQ:fC c lab s S' res (aU c) Q) (hE:dl c lab s S' res E):
  wpAny (model pw c.x.w) c.A (exec (.Expr (.Call (.Attribute (.Name x xp) m ap) [a] [] p) sp) c.env) Q E s:=by
 have O:=H.ok c hP;have hk:=hN.loc x hx;obtain ⟨l0,rV⟩:=Option.isSome_iff_exists.mp ho;replace rV:=qM rV;have hi:interactive c.env=false:=by unfold interactive;rw [O.kind];rfl
 refine wpAny_Expr_any (d4 (o:=.Name x xp) (args:=[a]) (by show (ap.endLine==p.line&&true)=true;rw [hl];rfl) (Nat.le_of_ble_eq_true rfl) (by rw [List.all_cons,ha];rfl) (wpAny_Name (bI O I rV fun v rv=> ?_) hd)) hi rfl;refine bc fun no=> ?_;obtain ⟨b,vs,n,rfl,Ea,hb,rs⟩:=rv;refine no ?_;clear no;intro pl;have hT:s.TypeIs (.ref b) "list":=⟨_,hb.exact,rfl⟩;have dR: ∀id,PySem.Slot "list" m id→typeOf (.builtin id)=pure (.type "method_descriptor")→wpAny (model pw c.x.w) c.A (callWith p (.builtin id) [.ref b] [(false,eval a c.env)] []) (fun _=>Q .next) E s→
   wpAny (model pw c.x.w) c.A (getMethod (.ref b) m pl) (fun fm s₂=>wpAny (model pw c.x.w) c.A (callWith p fm.1 fm.2 (backTo p (starEach [a] c.env)) []) (fun _=>Q .next) E s₂) E s:=fun id sl ty hh=>by
  refine getMethod_builtin hT F.plainAttrs_list sl ty (fun a' e=>by injection e with e;exact e▸⟨_,hb.exact,rfl⟩) ?_;rw [bz ha];exact hh
 have dJ: ∀(av:Value) (d:D) (S1:St) (lab1:ag) (s1:Shared),Inv c lab1 S1 s1→aV lab lab1→∀l,gH S1 x=some l→S1.ρ.lookup x=some (.own l)∧lab1 b=some (.loc x)∧∃AD n1,IsL s1.heap b AD n1∧an s1.heap (Rs c.G lab1) AD.toList l:=fun av d S1 lab1 s1 I1 m1 l GA=>by
  have Ge:=qM GA;refine bc fun no=> ?_;obtain ⟨cl,es,nn,h1,h2,h3,h4⟩:=I1.frame;obtain ⟨v0,e0,a0,LS,n0,rfl,G7,Ay,r0⟩:=h4 x _ Ge hk;obtain rfl:b=a0:=I.core.inj _ _ _ Ea (m1.1 _ _ G7);refine no ?_;clear no;exact ⟨Ge,G7,LS,n0,Ay.exact,r0⟩
 cases many with
 |false=>
  obtain rfl:m="append":=hm;refine dR "list.append" F.slot_list_append F.type_list_append (PySem.P.append_list ((aM H hP hN a).step hf I hE fun av d S1 lab1 s1 h1 I1 k1 m1 r1 dm=>ae h1 fun l GA h1=>aH h1 fun wY h9=> ?_));refine bc fun no=> ?_;obtain ⟨Ge,xr,AD,n1,hI,DY⟩:=dJ av d S1 lab1 s1 I1 m1 l GA;obtain ⟨u1,n',u2⟩:=eZ hI fun xs=>xs.push av;refine no ?_;clear no;refine ⟨AD,n1,by have:=jh.size DY;rw [sizeLine_eq];lia,hI, ?_⟩;have DX:an (s1.heap.update b (Obj.mapSeq fun xs=>xs.push av)) (Rs c.G lab1) (AD.push av).toList (l++ [d]):=by
   rw [Array.toList_push];exact (bL xr u1).reps (DY.append (.cons _ _ _ _ r1 .nil))
  obtain ⟨I2,k2⟩:=n9 I1 hk xr Ge u1 (t:=s1.toks) u2 DX;exact fY (R:=aU c) (b:=.next) hQ h9 I2 (k1.trans k2) m1.2 trivial
 |true=>
  obtain rfl:m="extend":=hm;refine dR "list.extend" F.slot_list_extend F.type_list_extend (PySem.P.extend_list ((aM H hP hN a).step hf I hE fun av d S1 lab1 s1 h1 I1 k1 m1 r1 dm=>ae h1 fun l GA h1=>ae h1 fun l' rW h1=>aH h1 fun wY h9=> ?_));refine bc fun no=> ?_;obtain ⟨Ge,xr,AD,n1,hI,DY⟩:=dJ av d S1 lab1 s1 I1 m1 l GA;rw [hY rW] at r1;obtain ⟨b2,Gq,n2,rfl,g1,g2,g3⟩:=aD.lst' r1;obtain ⟨u1,n',u2⟩:=eZ hI fun xs=>xs++Gq;refine no ?_;clear no;have hs:AD.size+Gq.size≤1000000:=by rw [jh.size DY,jh.size g3];exact wY
  refine ⟨b2,AD,Gq,n1,n2,by rw [sizeLine_eq];lia,by rw [sizeLine_eq];lia, ?_,rfl,hI,g1.exact, ?_⟩
  ·unfold Builtin.List.listTooLong
   rw [Bool.and_eq_true,not_and,decide_eq_true_eq];intro _;rw [sizeLine_eq];lia
  have DX:an (s1.heap.update b (Obj.mapSeq fun xs=>xs++Gq)) (Rs c.G lab1) (AD++Gq).toList (l++l'):=by
   rw [Array.toList_append];exact (bL xr u1).reps (DY.append g3)
  obtain ⟨I2,k2⟩:=n9 I1 hk xr Ge u1 (t:=s1.toks) u2 DX;exact fY (R:=aU c) (b:=.next) hQ h9 I2 (k1.trans k2) m1.2 trivial
end
section
variable{c:Fc}{lab:ag}{S:St}{s:Shared}
theorem Inv.unlFld(I:Inv c lab S s){C:Addr}{fs:List (Str×FV)}{f:Str}(hσ:S.σ=some (.inst C fs))(hf: ∀l,fs.lookup f≠some (.own l)):Inv c (unl (.fld f) lab) S s:=by
 refine ⟨I.core.unl (fun e=>nomatch e),aK.mpr ⟨I.isFrame,fun e=>nomatch e⟩, ?_,fun y m e q=> ?_,fun hc y e=> ?_, ?_⟩
 ·obtain ⟨cl,es,n,h1,h2,h3,h4⟩:=I.frame
  exact ⟨cl,es,n,h1,h2,h3,fun y m e q=>let ⟨v,h5,h6⟩:=h4 y m e q;⟨v,h5,iB h6 (fun e=>nomatch e) (.inr ⟨f,rfl⟩)⟩⟩
 ·obtain ⟨j1,b,v,j2,j3,j4,j5,j6⟩:=I.cells y m e q
  exact ⟨j1,b,v,j2,j3,fun hc=>aK.mpr ⟨j4 hc,fun e=>nomatch e⟩,j5,iB j6 (fun e=>nomatch e) (.inr ⟨f,rfl⟩)⟩
 ·obtain ⟨b,v,j1,j2,j3⟩:=I.bare hc y e
  exact ⟨b,v,j1,aK.mpr ⟨j2,fun e=>nomatch e⟩,j3⟩
 ·have hs:=I.slot
  rw [hσ] at hs ⊢;obtain ⟨x,dx,es,n,g1,g2,g3,g4,g5,g6,g7⟩:=hs;refine ⟨x,dx,es,n,aK.mpr ⟨g1,fun e=>nomatch e⟩,aK.mpr ⟨g2,fun e=>nomatch e⟩,g3,g4,g5,g6,fun y b e=> ?_⟩;obtain ⟨v,e2,rv⟩:=g7 y b e
  cases b with
  |d d=>exact ⟨v,e2,o8 rv⟩
  |own l=>exact ⟨v,e2,kU rv (fun q=>by injection q with q;subst q;exact hf l e)⟩
theorem store_attr(O:dq c)(I:Inv c lab S s){C:Addr}{fs:List (Str×FV)}{f:Str}{y:FV}(hσ:S.σ=some (.inst C fs))(ha:attrOk C f=true)(hn:fs.length≤50){a:Addr}(hx:lab a=some .sobj){v:Value}(r:cQ s.heap c.G lab f v y)
  {Q:Unit→Shared→Prop} {E:Value→Shared→Prop} (h: ∀s',Inv c lab {S with σ:=some (.inst C (upd fs f y))} s'→Kept lab s.heap lab s'.heap→Q () s'):wpAny (model pw c.x.w) c.A (setAttr (.ref a) f v) Q E s:=by
 have X:=I.kf O;have F:=mW c.x.w.params ha;simp only [iM,Bool.and_eq_true,beq_iff_eq] at F;refine bc fun no=> ?_;obtain ⟨⟨⟨⟨⟨⟨f1,f2⟩,f3⟩,f4⟩,f5⟩,f6⟩,f7⟩:=F;obtain ⟨cd,AN,hd⟩:=any_some f2;have gQ:=I.slot;rw [hσ] at gQ;obtain ⟨x,dx,es,n,g1,g2,g3,g4,g5,g6,g7⟩:=gQ;obtain rfl:a=x:=I.core.inj _ _ _ hx g1;refine no ?_;clear no;have IA: ∀h:Heap,At h a (.ref C) (some dx) .plain→At h dx (.type "dict") none (.dict es n)→InstAt h a ⟨.ref C,some dx,.plain,#[]⟩ C (some ⟨.type "dict",none,.dict es n,#[]⟩):=fun h q1 q2=>⟨q1.exact,rfl,rfl,q2.exact⟩;refine W.set_plain X (IA _ g3 g4) f7 (osa_open (s:={s with toks:=s.toks+1}) X (IA _ g3 g4) f5 f6 fun b=> ?_);refine wpAny_bind (wpAny_pure (wpAny_bind (wpAny_bind (wpAny_loadPart g3.exact (wpAny_bind (Looks.here (s:={s with toks:=s.toks+1}) (looks_clsIn X AN) ?_))))));rw [hd];refine wpAny_pure (a:=some dx) (wpAny_bind (wpAny_pure (wpAny_bind ?_)));refine fb (s:={s with toks:=s.toks+1}) g4 g5 fun h' oE n' q1 q2 q3 q4 q5=> ?_;refine wpAny_bind (wpAny_lookBehind q1.exact (pastItsLine_dict ?_) ?_)
 ·have:oE.size≤es.size+1:=Nat.le_trans q4 (by split<;>lia)
  have:=g6.1;rw [sizeLine_eq];lia
 refine wpAny_pure ?_;show Q () _;refine h _ ⟨I.core.same g2 q5 q1 (fun e=>nomatch e) (fun vs e=>nomatch e) (fun c' d' y' q=>(g4.same q).1) (fun _ _ _ q=>.inr (by rw [← (g4.same q).2.2];exact fun vs e=>nomatch e)),I.isFrame, ?_,fun z m e q=> ?_,fun hc z e=> ?_, ?_⟩ (bL g2 q5)
 ·refine bc fun no=> ?_
  obtain ⟨cl,SR,nn,h1,h2,h3,h4⟩:=I.frame;refine no ?_;clear no;exact ⟨cl,SR,nn,aR g2 q5 h1 (by rw [I.isFrame];exact fun e=>nomatch e),h2,h3,fun y m e q=>let ⟨v,h5,h6⟩:=h4 y m e q;⟨v,h5,bQ g2 q5 h6 (fun e=>nomatch e)⟩⟩
 ·refine bc fun no=> ?_
  obtain ⟨k1,b,v,k2,k3,k4,k5,k6⟩:=I.cells z m e q;refine no ?_;clear no;refine ⟨k1,b,v,k2,k3,k4,aR g2 q5 k5 ?_,bQ g2 q5 k6 (fun e=>nomatch e)⟩
  cases lh:c.comp with
  |true=>rw [I.core.disj b (k3 lh)];exact fun e=>nomatch e
  |false=>rw [k4 lh];exact fun e=>nomatch e
 ·refine bc fun no=> ?_
  obtain ⟨b,v,k1,k2,k3⟩:=I.bare hc z e;refine no ?_;clear no;exact ⟨b,v,k1,k2,aR g2 q5 k3 (by rw [k2];exact fun e=>nomatch e)⟩
 ·refine ⟨a,dx,oE,n',g1,g2,aR g2 q5 g3 (by rw [g1];exact fun e=>nomatch e),q1,q2,⟨?_,fun z e=> ?_⟩,fun z b e=> ?_⟩
  ·refine Nat.le_trans q4 ?_
   cases M0:fs.lookup f with
   |some w=>
    refine bc fun no=> ?_;obtain ⟨v0,e0,_⟩:=g7 f w M0;refine no ?_;clear no;rw [e0];exact Nat.le_trans g6.1 (i8 _ _ _)
   |none=>
    rw [g6.2 f M0];have: ∀(l:List (Str×FV)),l.lookup f=none→(upd l f y).length=l.length+1:=fun l=>by
     induction l with
     |nil=>intro _;rfl
     |cons p l ih=>
      intro e;rw [List.lookup_cons] at e;show List.length (if (f==p.1)=true then _ else _)=_
      cases hq:f==p.1 with
      |true=>rw [hq] at e;exact nomatch e
      |false=>rw [hq] at e;exact congrArg (· +1) (ih e)
    rw [this fs M0]
    simpa using g6.1
  ·rw [aN] at e
   by_cases hz:z=f
   ·subst hz;rw [if_pos (beq_self_eq_true _)] at e;exact nomatch e
   ·rw [if_neg (mt beq_iff_eq.mp hz)] at e
    rw [q3,if_neg hz];exact g6.2 z e
  ·rw [aN] at e
   rw [q3]
   by_cases hz:z=f
   ·subst hz
    rw [if_pos (beq_self_eq_true _)] at e;rw [if_pos rfl];exact ⟨v,rfl,kY g2 q5 (Option.some.inj e▸r) (fun e=>nomatch e)⟩
   ·rw [if_neg (mt beq_iff_eq.mp hz)] at e
    rw [if_neg hz];refine bc fun no=> ?_;obtain ⟨v',h5,h6⟩:=g7 z b e;refine no ?_;clear no;exact ⟨v',h5,kY g2 q5 h6 (fun e=>nomatch e)⟩
theorem eH{f:Str}{y:FV}{S':St}{o:bH Unit}{P:Prop}(h:gj f y S=some (o,S'))(k: ∀C fs,S.σ=some (.inst C fs)→attrOk C f=true→fs.length≤50→j8 fs f y=true→o= .ok ()→S'= {S with σ:=some (.inst C (upd fs f y))}→P):P:=
 ae h fun sl h1 h=>ae h fun q h2 h=>aH h fun h3 h=>gN h3 fun h3 h6=>gN h3 fun h4 h5=>fX h fun e1 e2=>k q.1 q.2 (h1.trans (congrArg some (kX h2))) h4 (of_decide_eq_true h5) h6 e1 e2
theorem fa{x:Str}(h:dH S x=true):S.ρ.lookup x=some .ptr∧(x== ("__debug__":Str))=false:=
 gN h fun h1 h2=>let ⟨l,h3,h4⟩:=any_some h1;⟨wd h4▸h3,Bool.not_eq_true' _ |>.mp h2⟩
end
section
variable{P:Fc→Prop}{r:ba}(H:aY P r){c:Fc}{ns:ab}(hP:P c)(hc:c.comp=false)(hN:aT c ns)
include H hP hc hN
theorem zd{x f:Str}{xp fp p:Pos}{v:Expr}:eD c (exec (.Assign [.Attribute (.Name x xp) f fp] v p) c.env) (Ev.bind (fe r ns v) fun d S=>if dH S x then Ev.bind (gj f (.d d)) (fun _=>Ev.pure Fl.next) S else none) (aU c):=by
 intro S lab s res S' hf I Q E hQ hE;have O:=H.ok c hP;refine plainObj_wpAny_Assign_Attribute ((aM H hP hN v).step hf I hE fun a d S1 lab1 s1 h1 I1 k1 m1 r1 dm=> ?_) (by cases v<;>rfl);refine aH h1 fun hp h1=>nd h1 (fun q _=>eH q fun _ _ _ _ _ _ z _=>nomatch z) fun u S2 q q'=>eH q fun C fs hσ ha hn ho _ e2=> ?_;subst e2;refine wpAny_Name (bI O I1 (fa hp).1 fun pv rp=> ?_) (fa hp).2;obtain ⟨b,rfl,hb⟩:=rp;exact store_attr O I1 hσ ha hn hb (y:=.d d) r1 fun s' I' k'=>fY (R:=aU c) (b:=.next) hQ q' I' (k1.trans k') m1.2 trivial
theorem rq{x f:Str}{xp fp lp p:Pos}:eD c (exec (.Assign [.Attribute (.Name x xp) f fp] (.List [] lp) p) c.env) (fun S=>if dH S x then Ev.bind (gj f (.own [])) (fun _=>Ev.pure Fl.next) S else none) (aU c):=by
 intro S lab s res S' hf I Q E hQ hE;have O:=H.ok c hP;refine aH hf fun hp hf=>nd hf (fun q _=>eH q fun _ _ _ _ _ _ z _=>nomatch z) fun u S2 q q'=>eH q fun C fs hσ ha hn ho _ e2=> ?_;subst e2;have LZ: ∀l,fs.lookup f≠some (.own l):=fun l e=>by unfold j8 at ho;rw [e] at ho;exact nomatch ho
 refine plainObj_wpAny_Assign_Attribute (wpAny_List_spliced (spliced_nil ⟨Nat.zero_le _, ?_⟩)) rfl;have I0:=I.unlFld hσ LZ;obtain ⟨I1,k1⟩:=I0.newLab (L:=.fld f) (o:={cls:=.type "list",data:=.seq ([]:List Value).toArray}) (fun a e=>(aK.mp e).2 rfl) (by simp) rfl rfl;have kS:At (s.heap.push {cls:=.type "list",data:=.seq ([]:List Value).toArray}) s.heap.objs.size (.type "list") none (.seq ([]:List Value).toArray 0):=.of (Heap.get?_push_size _ rfl);have hl:cy s.heap.objs.size (.fld f) (unl (.fld f) lab) s.heap.objs.size=some (.fld f):=if_pos rfl;refine wpAny_Name (bI O I1 (fa hp).1 fun pv rp=> ?_) (fa hp).2;obtain ⟨b,rfl,hb⟩:=rp;refine store_attr O I1 hσ ha hn hb (y:=.own []) ⟨_,_,_,rfl,hl,kS,.nil⟩ fun s' I' k'=>fY (R:=aU c) (b:=.next) hQ q' I' ((jB.trans k1).trans k') (fun a e=> ?_) trivial;unfold cy
 split
 ·rename_i hq
  subst hq;exact absurd (.inr (by rw [e];exact fun e=>nomatch e)) (I.core.new (Nat.le_refl _))
 ·exact aK.mpr ⟨e,fun e=>nomatch e⟩
end
noncomputable def qQ(l:List Env):List Addr:=l.filterMap (·.frame)
theorem pI{h bs:Heap}{l:List Env}:(∀env∈l,env.scope.kind≠ .module∧∃L d y,env.frame=some L∧bs.get? L=none∧At h L (.type "frame") d y∧∀vs,y≠ .fields vs)→h.FunFrames bs l:=by
 induction l with
 |nil=>exact fun _=>trivial
 |cons env l ih=>
  intro hl;refine bc fun no=> ?_;obtain ⟨q,L,d,y,e,n,⟨sl,ha,_⟩,m⟩:=hl env (.head _);refine no ?_;clear no;exact ⟨q,⟨L,_,e,n,ha,m⟩,ih fun e he=>hl e (.tail _ he)⟩
section
variable{P:Fc→Prop}{r:ba}(H:aY P r){c:Fc}{ns:ab}(hP:P c)(hc:c.comp=false)(hN:aT c ns)
include H hP hc hN
theorem uJ{o:Expr}{m:Str}{ap p sp:Pos}{args:List Expr}:eD c (exec (.Expr (.Call (.Attribute o m ap) args [] p) sp) c.env) (Ev.bind (r.ev ns (.Call (.Attribute o m ap) args [] p)) fun _=>Ev.pure Fl.next) (aU c):=by
 intro S lab s res S' hf I Q E hQ hE;have hi:interactive c.env=false:=by unfold interactive;rw [(H.ok c hP).kind];rfl
 refine wpAny_Expr_any ((H.ev c ns hP hN _).step hf I hE fun a d S1 lab1 s1 h1 I1 k1 m1 r1 dm=> ?_) hi rfl;obtain ⟨rfl,rfl⟩:=eK h1;exact hQ _ _ _ _ rfl I1 k1 m1.2 trivial
end
section
variable{P:Fc→Prop}{r:ba}(H:aY P r){c:Fc}{ns:ab}(hP:P c)(hc:c.comp=false)(hN:aT c ns)
include H hP hc hN
theorem tr{x f y:Str}{xp fp ap yp p sp:Pos}(hl:(ap.endLine==p.line)=true)(hd:(x== ("__debug__":Str))=false)(rX:(y== ("__debug__":Str))=false):
  eD c (exec (.Expr (.Call (.Attribute (.Attribute (.Name x xp) f fp) "append" ap) [.Name y yp] [] p) sp) c.env) (oq ns x f y) (aU c):=by
 intro S lab s res S' hf I Q E hQ hE;have O:=H.ok c hP;have X:=I.kf O;have hi:interactive c.env=false:=by unfold interactive;rw [O.kind];rfl
 refine aH hf fun hp hf=>ae hf fun ly hy hf=>ae hf fun d M6 hf=>ae hf fun sl hσ hf=>ae hf fun q hq hf=>aH hf fun ha hf=>ae hf fun z hz hf=>ae hf fun l Ry hf=>aH hf fun wY hf=> ?_;rw [pk M6] at hy;rw [kX hq] at hσ;have rV:q.2.lookup f=some (.own l):=Fy Ry▸hz;have gQ:=I.slot;rw [hσ] at gQ;refine bc fun no=> ?_;obtain ⟨xa,dx,es,n,g1,g2,g3,g4,g5,g6,g7⟩:=gQ;obtain ⟨v,e1,b,vs,m,rfl,Ea,kS,rr⟩:=g7 f _ rV;refine no ?_;clear no;refine wpAny_Expr_any (d4 (o:=.Attribute (.Name x xp) f fp) (args:=[.Name y yp]) (by show (ap.endLine==p.line&&true)=true;rw [hl];rfl) (Nat.le_of_ble_eq_true rfl) rfl (Attribute_any_ (wpAny_Name (bI O I (fa hp).1 fun pv rp=> ?_) hd) rfl)) hi rfl;refine bc fun no=> ?_;obtain ⟨Qr,rfl,Q6⟩:=rp;obtain rfl:Qr=xa:=I.core.inj _ _ _ Q6 g1;refine no ?_;clear no;refine jM O X ha g3 g4 g5 e1 rfl ?_;intro pl;have tk:=aw (s:=s) (s.toks+1);have I1:=I.keeps tk;refine getMethod_builtin (s:={s with toks:=s.toks+1}) ⟨_,kS.exact,rfl⟩ F.plainAttrs_list F.slot_list_append F.type_list_append (fun a' e=>by injection e with e;exact e▸⟨_,kS.exact,rfl⟩) ?_;refine PySem.P.append_list (wpAny_Name (bI O I1 (s:={s with toks:=s.toks+1}) hy fun yv ry=> ?_) rX);have hI:IsL s.heap b vs m:=kS.exact;have aP:=jh.size rr;refine bc fun no=> ?_;obtain ⟨u1,n',u2⟩:=eZ hI fun xs=>xs.push yv;refine no ?_;clear no;refine ⟨vs,m,by rw [aP,sizeLine_eq];lia,hI, ?_⟩;have DX:an (s.heap.update b (Obj.mapSeq fun xs=>xs.push yv)) (Rs c.G lab) (vs.push yv).toList (l++ [d]):=by
  rw [Array.toList_push];exact (bL Ea u1).reps (rr.append (.cons _ _ _ _ ry .nil))
 obtain ⟨I2,k2⟩:=tD (s:={s with toks:=s.toks+1}) I1 hσ Ea rV u1 (t:=s.toks+1) u2 DX;exact fY (R:=aU c) (b:=.next) hQ hf I2 k2 (bN.refl _) trivial
end
theorem tE{e:Expr}{q:le}(h:ownCall e=some q): ∃xp ap p,e= .Call (.Attribute (.Name q.x xp) q.m ap) [q.a] [] p∧q.ok= (ap.endLine==p.line):=
 ae h fun c h1 h=>ae h fun t h2 h=>ae h fun x h3 h=>ae h fun a h4 h=>aH h fun h5 h=>Option.some.inj h▸⟨x.2,t.p,c.p,(fU h1).trans (by rw [d5 h2,bM h3,dU h4,List.isEmpty_iff.mp h5]),rfl⟩
theorem ro{e:Expr}{q:mG}(h:jE e=some q): ∃xp fp ap yp p,e= .Call (.Attribute (.Attribute (.Name q.x xp) q.f fp) q.m ap) [.Name q.y yp] [] p∧q.ok= (ap.endLine==p.line):=
 ae h fun c h1 h=>ae h fun t h2 h=>ae h fun u h3 h=>ae h fun x h4 h=>ae h fun a h5 h=>ae h fun y h6 h=>aH h fun h7 h=>Option.some.inj h▸⟨x.2,u.p,t.p,y.2,c.p,(fU h1).trans (by rw [d5 h2,d5 h3,bM h4,dU h5,bM h6,List.isEmpty_iff.mp h7]),rfl⟩
theorem rE{e:Expr}(h:l9 e=true): ∃o m ap args p,e= .Call (.Attribute o m ap) args [] p:=by
 refine bc fun no=> ?_;obtain ⟨c,h1,h2⟩:=any_some h;obtain ⟨h3,h4⟩:=Bool.and_eq_true_iff.mp h2;obtain ⟨t,h5⟩:=Option.isSome_iff_exists.mp h3;refine no ?_;clear no;exact ⟨t.o,t.m,t.p,c.as,c.p,(fU h1).trans (by rw [d5 h5,List.isEmpty_iff.mp h4])⟩
section
variable{P:Fc→Prop}{r:ba}(H:aY P r){c:Fc}{ns:ab}(hP:P c)(hc:c.comp=false)(hN:aT c ns)
include H hP hc hN
theorem to(fn:au)(e:Expr)(sp:Pos):eD c (exec (.Expr e sp) c.env) (vp r ns (.Expr e sp)) (aU c):=by
 intro S lab s res S' hf I Q E hQ hE;refine du hf (fun _ hf=>du hf (fun _ hf=>aH hf fun hm hf=> ?_) fun q hs hf=>aH hf fun ED h9=> ?_) fun q N9 h9=> ?_
 ·refine bc fun no=> ?_
  obtain ⟨o,m,ap,args,p,rfl⟩:=rE hm;refine no ?_;clear no;exact uJ H hP hc hN S lab s res S' hf I Q E hQ hE
 ·refine bc fun no=> ?_
  obtain ⟨xp,fp,ap,yp,p,rfl,h0⟩:=ro hs;obtain ⟨Na,h4⟩:=Bool.and_eq_true_iff.mp ED;obtain ⟨Nb,h2⟩:=Bool.and_eq_true_iff.mp Na;obtain ⟨h1,h3⟩:=Bool.and_eq_true_iff.mp Nb;refine no ?_;clear no;rw [beq_iff_eq.mp h1];exact tr H hP hc hN (h0▸h3) (Bool.not_eq_true' _ |>.mp h2) (Bool.not_eq_true' _ |>.mp h4) S lab s res S' h9 I Q E hQ hE
 ·refine bc fun no=> ?_
  obtain ⟨xp,ap,p,rfl,h0⟩:=tE N9;refine no ?_;clear no;refine du h9 (fun _ hf=>uJ H hP hc hN S lab s res S' hf I Q E hQ hE) fun l ho hf=>aH hf fun ED hf=> ?_;refine bc fun no=> ?_;obtain ⟨Na,h4⟩:=Bool.and_eq_true_iff.mp ED;obtain ⟨Nb,h3⟩:=Bool.and_eq_true_iff.mp Na;obtain ⟨h1,h2⟩:=Bool.and_eq_true_iff.mp Nb;refine no ?_;clear no;have key:=fun many hm hf=>vP H hP hc hN (beq_iff_eq.mp h1) (Bool.not_eq_true' _ |>.mp h2) (h0▸h3) h4 (xp:=xp) (sp:=sp) (m:=q.m) (many:=many) hm (by rw [ho];rfl) hf I hQ hE;exact f8 hf (fun hm hf=>key false (beq_iff_eq.mp hm) hf) fun _ hf=>f8 hf (fun hm hf=>key true (beq_iff_eq.mp hm) hf) fun _ hf=>cg hf
end
theorem jS{v:Expr}(h:cm v=true): ∃p,v= .List [] p:=by
 obtain ⟨q,h1,h2⟩:=any_some h;exact ⟨q.2,List.isEmpty_iff.mp h2▸wQ h1⟩
theorem wR{v:Expr}{q:ey}(h:ke v=some q):v= .ListComp q.elt [⟨q.target,q.iter,q.ifs,0⟩] q.sc q.pos:=
 ae h fun c h1 h=>ae h fun ⟨t,it,ifs,a⟩ h2 h=>aH h fun (h3:a=0) h=>Option.some.inj h▸(CW h1).trans (by rw [dU h2,h3])
noncomputable def pF(P:Fc→Prop)(r:ba):Prop:=∀c ns,P c→c.comp=false→aT c ns→∀x xp p (q:ey),eD c (exec (.Assign [.Name x xp] (.ListComp q.elt [⟨q.target,q.iter,q.ifs,0⟩] q.sc q.pos) p) c.env) (gk r ns x q) (aU c)
section
variable{P:Fc→Prop}{r:ba}(H:aY P r)(HC:pF P r){c:Fc}{ns:ab}(hP:P c)(hc:c.comp=false)(hN:aT c ns)
include H HC hP hc hN
theorem vO(fn:au)(t v:Expr)(p:Pos):eD c (exec (.Assign [t] v p) c.env) (vp r ns (.Assign [t] v p)) (aU c):=by
 intro S lab s res S' hf I Q E hQ hE;refine du hf (fun _ hf=>du hf (fun _ hf=>ae hf fun q hq hf=> ?_) fun q hq hf=>ae hf fun x hx hf=> ?_) fun q hq hf=> ?_
 ·exact mC hq▸BE H hP hc hN S lab s res S' hf I Q E hQ hE
 ·rw [d5 hq,bM hx]
  refine iP hf (fun he h9=> ?_) fun _ hf=>zd H hP hc hN S lab s res S' hf I Q E hQ hE;obtain ⟨lp,rfl⟩:=jS he;exact rq H hP hc hN S lab s res S' h9 I Q E hQ hE
 ·rw [bM hq]
  refine iP hf (fun he hf=>aH hf fun hx h9=> ?_) fun _ hf=>du hf (fun _ hf=>aH hf fun hv hf=>set_plain H hP hc hN hv S lab s res S' hf I Q E hQ hE) fun z hz hf=> ?_
  ·obtain ⟨lp,rfl⟩:=jS he
   exact set_own H hP hc hN (beq_iff_eq.mp hx) S lab s res S' h9 I Q E hQ hE
  ·rw [wR hz]
   exact HC c ns hP hc hN q.1 q.2 p z S lab s res S' hf I Q E hQ hE
end
theorem dE{β:Type}{l:List (Str×β)}{x:Str}{b:β}(e:l.lookup x=some b):(x,b)∈l:=mem_of_lookup _ _ _ e
theorem nC{β:Type}{f:Str→Option β}{l:List (Str×β)}{x:Str}{b:β}(h: ∀q∈l,f q.1=some q.2)(m:(x,b)∈l):l.lookup x=f x:=by
 induction l with
 |nil=>exact nomatch m
 |cons p r ih=>
  rw [List.lookup_cons]
  cases q:x==p.1 with
  |true=>obtain rfl:=beq_iff_eq.mp q;exact (h _ List.mem_cons_self).symm
  |false=>
   refine ih (fun q h'=>h q (List.mem_cons_of_mem _ h')) ((List.mem_cons.mp m).resolve_left fun m=> ?_);rw [←m,beq_self_eq_true] at q;exact nomatch q
structure uE(ns:ab)(ρ:List (Str×Loc))(names:ab)(ρ':List (Str×Loc)):Prop where
 got: ∀x l,ρ'.lookup x=some l→(x,NameKind.free)∈names∧ρ.lookup x=some l∧((∃d,l= .d d)∨l= .ptr)
 all: ∀x,(x,NameKind.free)∈names→gf ns x=true∧∃l,ρ.lookup x=some l
 cell: ∀p∈names,p.2≠ .cell
theorem wH{l l':Loc}(h:yD l=some l'):l=l'∧((∃d,l'= .d d)∨l'= .ptr):=by
 cases l with
 |d d=>exact Option.some.inj h▸⟨rfl,.inl ⟨d,rfl⟩⟩
 |ptr=>exact Option.some.inj h▸⟨rfl,.inr rfl⟩
 |own l=>exact cg h
theorem ub{ns:ab}{ρ:List (Str×Loc)}(names:ab): ∀(ρ':List (Str×Loc)),cf ns ρ names=some ρ'→uE ns ρ names ρ':=by
 induction names with
 |nil=>exact fun ρ' h=>Option.some.inj h▸⟨(fun _ _ e=>nomatch e),(fun _ e=>nomatch e),fun _ e=>nomatch e⟩
 |cons p r ih=>
  intro ρ' h;obtain ⟨x,k⟩:=p;have skip:k≠ .cell→k≠ .free→cf ns ρ r=some ρ'→uE ns ρ ((x,k)::r) ρ':=fun n1 n2 e=>by
   obtain ⟨h1,h2,h3⟩:=ih ρ' e;exact ⟨fun y l e=>let ⟨a,b⟩:=h1 y l e;⟨List.mem_cons_of_mem _ a,b⟩,fun y m=>(List.mem_cons.mp m).elim (fun m=>absurd (congrArg Prod.snd m).symm n2) (h2 y),fun q m=>(List.mem_cons.mp m).elim (fun m=>m▸n1) (h3 q)⟩
  cases k with
  |free=>
   refine aH h fun hc h=>ae h fun l hl h=>ae h fun l' rW h=>gM h fun q hq h=> ?_;subst h;obtain ⟨rfl,hk⟩:=wH rW;obtain ⟨h1,h2,h3⟩:=ih q hq;exact ⟨fun y l' e=>fj e (fun a b=>a▸b▸⟨List.mem_cons_self,hl,hk⟩) fun e=>let ⟨a,b⟩:=h1 y l' e;⟨List.mem_cons_of_mem _ a,b⟩,
    fun y m=>(List.mem_cons.mp m).elim (fun m=>by obtain rfl:y=x:=congrArg Prod.fst m;exact ⟨hc,_,hl⟩) (h2 y),fun q m=>(List.mem_cons.mp m).elim (fun m=>m▸fun e=>nomatch e) (h3 q)⟩
  |«local»=>exact skip (fun e=>nomatch e) (fun e=>nomatch e) h
  |globalImplicit=>exact skip (fun e=>nomatch e) (fun e=>nomatch e) h
  |_=>exact cg h
theorem ua{env:Env}: ∀(names:List (Str×NameKind)) (cs:List (Str×Addr)),(∀x,(x,NameKind.free)∈names→∃a,env.cells.lookup x=some a)→
  ∃cl,(forIn names cs fun x r=>(if (x.2==NameKind.free)=true then (do let a ←cellOf env x.1;pure (ForInStep.yield ((x.1,a)::r))) else pure (ForInStep.yield r):Sem (ForInStep (List (Str×Addr)))))=pure cl∧
   (∀q∈cl,q∈cs∨env.cells.lookup q.1=some q.2)∧(∀q∈cs,q∈cl)∧(∀x,(x,NameKind.free)∈names→∃a,(x,a)∈cl):=by
 intro names
 induction names with
 |nil=>intro cs h;exact ⟨cs,rfl,fun q m=>.inl m,fun q m=>m,fun _ m=>nomatch m⟩
 |cons p r ih=>
  intro cs h;obtain ⟨x,k⟩:=p;have hr: ∀x,(x,NameKind.free)∈r→∃a,env.cells.lookup x=some a:=fun y m=>h y (List.mem_cons_of_mem _ m)
  cases hk:(k==NameKind.free) with
  |false=>
   refine bc fun no=> ?_;obtain ⟨cl,h1,h2,h3,h4⟩:=ih cs hr;refine no ?_;clear no;refine ⟨cl, ?_,h2,h3,fun y m=> ?_⟩
   ·rw [List.forIn_cons]
    dsimp only;rw [if_neg (by rw [hk];exact Bool.false_ne_true),pure_bind];exact h1
   ·rcases List.mem_cons.mp m with m|m
    ·cases m;exact nomatch hk
    ·exact h4 y m
  |true=>
   refine bc fun no=> ?_;obtain rfl:=beq_iff_eq.mp hk;obtain ⟨a,ha⟩:=h x List.mem_cons_self;obtain ⟨cl,h1,h2,h3,h4⟩:=ih ((x,a)::cs) hr;refine no ?_;clear no;refine ⟨cl, ?_,fun q m=> ?_,fun q m=>h3 q (List.mem_cons_of_mem _ m),fun y m=> ?_⟩
   ·rw [List.forIn_cons]
    have hc:cellOf env x=pure a:=by unfold cellOf;rw [ha]
    dsimp only;rw [if_pos (by rfl),hc,pure_bind,pure_bind];exact h1
   ·rcases h2 q m with m|m
    ·rcases List.mem_cons.mp m with rfl|m
     ·exact .inr ha
     ·exact .inl m
    ·exact .inr m
   ·rcases List.mem_cons.mp m with m|m
    ·cases m;exact ⟨a,h3 _ List.mem_cons_self⟩
    ·exact h4 y m
theorem iV{env:Env}{sc:Scope}(h: ∀x,(x,NameKind.free)∈sc.names→∃a,env.cells.lookup x=some a): ∃cl,closureFor sc env=pure cl∧∀x,(x,NameKind.free)∈sc.names→cl.lookup x=env.cells.lookup x:=by
 refine bc fun no=> ?_;obtain ⟨cl,h1,h2,h3,h4⟩:=ua (env:=env) sc.names [] h;refine no ?_;clear no;refine ⟨cl, ?_,fun x m=> ?_⟩
 ·unfold closureFor
  have:(forIn sc.names ([]:List (Str×Addr)) fun x r=>(match x,r with|(name,kind),cs=>(do
    if (kind==NameKind.free)=true then
     let a ←cellOf env name
     let cs:=(name,a)::cs
     pure PUnit.unit
     pure (ForInStep.yield cs)
    else
     pure PUnit.unit
     pure (ForInStep.yield cs)):Sem (ForInStep (List (Str×Addr)))))=pure cl:=by
   rw [←h1]
  exact (congrArg (· >>=fun cs=>pure cs) this).trans (pure_bind _ _)
 ·obtain ⟨a,m'⟩:=h4 x m
  exact nC (f:=fun x=>env.cells.lookup x) (fun q m=>(h2 q m).resolve_left (fun e=>nomatch e)) m'
theorem m9{env:Env}(hf:env.scope.kind= .function){names:List (Str×NameKind)}{x:Str}{k:NameKind}(h:names.lookup x=some k)(hc:k= .free→env.kindOf x=some .cell):
  (names.map fun (n,k)=>if (k==NameKind.free&&env.scope.kind== .function&&env.kindOf n==some .cell) then (n,NameKind.cell) else (n,k)).lookup x=some (if k= .free then .cell else k):=by
 induction names with
 |nil=>exact cg h
 |cons p r ih=>
  obtain ⟨n,k'⟩:=p;show List.lookup x ((if (k'==NameKind.free&&env.scope.kind== .function&&env.kindOf n==some .cell)=true then (n,NameKind.cell) else (n,k'))::_)=_;refine fj h (fun a b=> ?_) fun e=> ?_
  ·subst a b
   by_cases hk:k'= .free
   ·rw [if_pos (by rw [hk,hf,hc hk];rfl),List.lookup_cons,beq_self_eq_true,if_pos hk]
   ·rw [if_neg (by rw [beq_eq_false_iff_ne.mpr hk];exact Bool.false_ne_true),List.lookup_cons,beq_self_eq_true,if_neg hk]
  ·cases hx:x==n with
   |true=>
    obtain rfl:=beq_iff_eq.mp hx;rw [List.lookup_cons,beq_self_eq_true] at h;obtain rfl:=Option.some.inj h
    by_cases hk:k'= .free
    ·rw [if_pos (by rw [hk,hf,hc hk];rfl),List.lookup_cons,beq_self_eq_true,if_pos hk]
    ·rw [if_neg (by rw [beq_eq_false_iff_ne.mpr hk];exact Bool.false_ne_true),List.lookup_cons,beq_self_eq_true,if_neg hk]
   |false=>
    have hz: ∀q:Str×NameKind,q.1=n→∀l:List (Str×NameKind),(q::l).lookup x=l.lookup x:=fun q hq l=>by rw [List.lookup_cons,hq,hx]
    rw [hz _ (by split<;>rfl)];exact ih e
section
variable{c:Fc}{lab:ag}{S:St}{s:Shared}
theorem ch.newLab{x:Cx}{G:Addr→Prop}{lab:ag}{outer:List Env}{s:Shared}(C:ch x G lab outer s){L:cP}{o:Obj}(hL: ∀a,lab a≠some L)(hc:o.cls≠ .none)(hs:o.slots= #[])(hf:o.isFreed=false)(hb:x.base.objs.size≤s.heap.objs.size):
  ch x G (cy s.heap.objs.size L lab) outer {s with heap:=s.heap.push o}:=by
 have hn:lab s.heap.objs.size=none:=by
  cases q:lab s.heap.objs.size with
  |none=>rfl
  |some L'=>exact absurd (.inr (by rw [q];exact fun e=>nomatch e)) (C.new (Nat.le_refl _))
 have hG: ¬G s.heap.objs.size:=fun g=>C.new (Nat.le_refl _) (.inl g);have kp:Keeps s {s with heap:=s.heap.push o}:=ce o;have k:=al kp;have kS:At (s.heap.push o) s.heap.objs.size o.cls o.dict o.data:=by
  refine ⟨o.slots, ?_,fun _=>hs⟩;rw [Heap.get?_push_size _ hf]
 have C':=C.keeps kp;refine ⟨C'.old,C'.os,C'.gens,fun a e=> ?_,fun env he=> ?_,fun a b l e e'=> ?_,fun a e=> ?_,C'.tab⟩
 ·by_cases ha:a=s.heap.objs.size
  ·subst ha;exact ⟨hb,_,_,_,kS,hc⟩
  ·exact C'.res a (e.imp id fun z=>by unfold cy at z;rwa [if_neg ha] at z)
 ·obtain ⟨q,l,d,y,e,r,z⟩:=C'.fr env he
  exact ⟨q,l,d,y,e,r.imp id fun r=>bA r hn,z⟩
 ·unfold cy at e e'
  split at e<;>split at e'<;>rename_i p1 p2
  ·rw [p1,p2]
  ·cases e;exact absurd e' (hL b)
  ·cases e';exact absurd e (hL a)
  ·exact C.inj a b l e e'
 ·unfold cy
  rw [if_neg (by rintro rfl;exact hG e)];exact C.disj a e
theorem Inv.dropAt{a:Addr}(I:Inv (withG c (aZ c.G a)) lab S s)(D9: ¬c.G a){h':Heap}{t:Nat}(hs:Heap.SameBut a s.heap h'){cl:Value}{d:Option Addr}{x:Data}(ha:At s.heap a cl d x)(h1: ∀env∈c.outer,env.frame≠some a)(h2: ∀v,x≠ .cell v)(h3: ∀vs,x≠ .fields vs):
  Inv c lab S {s with heap:=h',toks:=t}∧(∀{v d},aD s.heap (Rs (aZ c.G a) lab) v d→aD h' (Rs c.G lab) v d):=by
 have hn:lab a=none:=I.core.disj a (.inr rfl);have hb:=(I.core.res a (.inl (.inr rfl))).1;have hg: ∀b,c.G b→aZ c.G a b:=fun b h=>.inl h;have ne: ∀b,lab b≠none→b≠a:=fun b q e=>q (e▸hn);have na: ∀{b c d y},b≠a→At s.heap b c d y→At h' b c d y:=fun hb ⟨sl,q,z⟩=>⟨sl,(hs.2 _ hb).trans q,z⟩;have ka: ∀b c' d' y,¬Rs (aZ c.G a) lab b→At s.heap b c' d' y→c'≠ .none→At h' b c' d' y∧¬Rs c.G lab b:=fun b _ _ _ n q _=>⟨na (fun e=>n (.inl (.inr e))) q,fun z=>n (z.imp (hg b) id)⟩;have kr: ∀{v d},aD s.heap (Rs (aZ c.G a) lab) v d→aD h' (Rs c.G lab) v d:=fun r=>r.mono ka;have Gv: ∀{v d},an s.heap (Rs (aZ c.G a) lab) v d→an h' (Rs c.G lab) v d:=fun r=>r.mono ka;have ko: ∀{L v l},bZ s.heap (aZ c.G a) lab L v l→bZ h' c.G lab L v l:=fun ⟨b,vs,m,e,hl,hb,r⟩=>⟨b,vs,m,e,hl,na (ne b (by rw [hl];exact fun e=>nomatch e)) hb,Gv r⟩;have kl: ∀{x v l},bp s.heap (aZ c.G a) lab x v l→bp h' c.G lab x v l:=fun {x v l} r=>by
  cases l with
  |d d=>exact kr r
  |own l=>exact ko r
  |ptr=>exact r
 have kf: ∀{x v l},cQ s.heap (aZ c.G a) lab x v l→cQ h' c.G lab x v l:=fun {x v l} r=>by
  cases l with
  |d d=>exact kr r
  |own l=>exact ko r
 have QR: ∀b,Rs c.G lab b→b≠a:=fun b e q=>by
  subst q;rcases e with e|e
  ·exact D9 e
  ·exact e hn
 refine ⟨⟨⟨I.core.old.step_same hb hs,I.core.os,I.core.gens,fun b e=> ?_,fun env he=> ?_,I.core.inj,fun b e=>I.core.disj b (.inl e),I.core.tab.1,I.core.tab.2.same (fun e=>Nat.lt_irrefl _ (Nat.lt_of_lt_of_le I.core.tab.1 (e▸hb))) hs ha (.inr h3)⟩,I.isFrame, ?_,fun x l e q=> ?_,fun hc x e=> ?_, ?_⟩,kr⟩
 ·refine bc fun no=> ?_
  obtain ⟨q,Mh,d',y',z,n⟩:=I.core.res b (e.imp (hg b) id);refine no ?_;clear no;exact ⟨q,_,_,_,na (QR b e) z,n⟩
 ·refine bc fun no=> ?_
  obtain ⟨q,l,d',y,e,r,z,m⟩:=I.core.fr env he;refine no ?_;clear no;have hl:l≠a:=fun q=>h1 env he (by rw [e,q]);refine ⟨q,l,d',y,e, ?_,na hl z,m⟩;rcases r with (r|r)|r
  ·exact .inl r
  ·exact absurd r hl
  ·exact .inr r
 ·refine bc fun no=> ?_
  obtain ⟨cl,es,n,h1,h2,h3,h4⟩:=I.frame;refine no ?_;clear no;exact ⟨cl,es,n,na (ne _ (by rw [show lab c.env.locals=some .frame from I.isFrame];exact fun e=>nomatch e)) h1,h2,h3,fun x l e q=>let ⟨v,h5,h6⟩:=h4 x l e q;⟨v,h5,kl h6⟩⟩
 ·refine bc fun no=> ?_
  obtain ⟨k1,b,v,k2,k3,k4,k5,k6⟩:=I.cells x l e q;refine no ?_;clear no;refine ⟨k1,b,v,k2,fun hc=> ?_,k4,na (fun e=>h2 _ (ha.same (e▸k5)).2.2) k5,kl k6⟩;rcases k3 hc with k3|k3
  ·exact k3
  ·subst k3;exact absurd (ha.same k5).2.2 (h2 _)
 ·refine bc fun no=> ?_
  obtain ⟨b,v,k1,k2,k3⟩:=I.bare hc x e;refine no ?_;clear no;exact ⟨b,v,k1,k2,na (ne _ (by rw [k2];exact fun e=>nomatch e)) k3⟩
 ·have gQ:=I.slot
  cases hσ:S.σ with
  |none=>trivial
  |some σ=>
   rw [hσ] at gQ
   cases σ with
   |inst c fs=>
    refine bc fun no=> ?_;obtain ⟨b,d,es,m,g1,g2,g3,g4,g5,g6,g7⟩:=gQ;refine no ?_;clear no;exact ⟨b,d,es,m,g1,g2,na (ne _ (by rw [g1];exact fun e=>nomatch e)) g3,na (ne _ (by rw [g2];exact fun e=>nomatch e)) g4,g5,g6,fun f y e=>let ⟨v,h8,h9⟩:=g7 f y e;⟨v,h8,kf h9⟩⟩
   |deck cells am=>
    refine bc fun no=> ?_;obtain ⟨d,es,m,v,u,g1,g2,g3,g4,g5,g6⟩:=gQ;refine no ?_;clear no;exact ⟨d,es,m,v,u,g1,na (ne _ (by rw [g1];exact fun e=>nomatch e)) g2,g3,g4,ko g5,g6⟩
end
theorem wM{c:Fc}{lab lab1:ag}{S:St}{s s':Shared}{p:cP→Bool}{σ':Option Slot}{G2:Addr→Prop}(I:Inv c lab S s)(g1: ∀a,c.G a→G2 a)(g2: ∀a,G2 a→c.G a∨s.heap.get? a=none)(hp: ∀l,l.ofSlot=false→p l=false)
  (P:aA (withG c (bY p G2 lab)) (aW p lab) s σ' lab1 s') (hq: ∀a l,lab1 a=some l→p l=true) (hσ:(∀l,p l=false)∧S.σ=S.σ∨(∀l,l.ofSlot=true→p l=true)∧σ'.isSome=true):
  Inv (withG c G2) (bt p lab lab1) ⟨S.ρ,if (p .sobj) then σ' else S.σ⟩ s'∧Kept lab s.heap (bt p lab lab1) s'.heap∧aV lab (bt p lab lab1)∧(∀{v d},aD s'.heap (Rs (bY p G2 lab) lab1) v d→aD s'.heap (Rs G2 (bt p lab lab1)) v d):=by
 refine bc fun no=> ?_;obtain ⟨C',dQ,k,m,only⟩:=P;refine no ?_;clear no;have qd: ∀a,lab a=none→lab1 a=none→bt p lab lab1 a=none:=fun a e1 e2=>by unfold bt;rw [e1];exact e2
 have iO: ∀a l,lab a=some l→p l=false→bt p lab lab1 a=some l:=fun a l e hl=>by unfold bt;rw [e];dsimp only;rw [hl];rfl
 have kr: ∀a c' d x,¬Rs c.G lab a→At s.heap a c' d x→c'≠ .none→At s'.heap a c' d x∧¬Rs G2 (bt p lab lab1) a:=fun a c' d x n q hc=>by
  have e:aW p lab a=none:=aB fun l e=>absurd (.inr (by rw [e];exact fun e=>nomatch e)) n;obtain ⟨q',e'⟩:=k.at a c' d x e q hc;refine ⟨q',fun z=> ?_⟩;rcases fB.mpr z with (g|⟨l,e1,_⟩)|z
  ·rcases g2 a g with g|g
   ·exact n (.inl g)
   ·obtain ⟨_,q,_⟩:=q;rw [g] at q;exact nomatch q
  ·exact n (.inr (by rw [e1];exact fun e=>nomatch e))
  ·exact z e'
 have vo: ∀L,p L=false→Ek lab (bt p lab lab1) s.heap s'.heap L:=fun L hL a e=>⟨iO a L e hL,fun c' d x q hc=>(k.at a c' d x (aB fun l e'=>by rw [e] at e';cases e';exact hL) q hc).1⟩;have sm:bN lab (bt p lab lab1):=fun a e=>by
  cases hs:p .sobj with
  |false=>exact iO a _ e hs
  |true=>
   rcases hσ with ⟨h,_⟩|⟨_,h⟩
   ·rw [h] at hs;exact nomatch hs
   ·have:=m h a (aq.mpr ⟨e,hs⟩)
    unfold bt;rw [e];dsimp only;rw [hs];exact this
 have lg: ∀a,G2 a→lab a=none:=fun a g=>by
  rcases g2 a g with g|g
  ·exact I.core.disj a g
  ·cases q:lab a with
   |none=>rfl
   |some l=>obtain ⟨_,_,_,_,⟨_,z,_⟩,_⟩:=I.core.res a (.inr (by rw [q];exact fun e=>nomatch e));rw [g] at z;exact nomatch z
 have rb: ∀{v d},aD s'.heap (Rs (bY p G2 lab) lab1) v d→aD s'.heap (Rs G2 (bt p lab lab1)) v d:=fun r=>r.mono fun a c' d x n q _=>⟨q,fun z=>n (fB.mpr z)⟩;have nf:p .frame=false:=hp _ rfl;refine ⟨⟨⟨C'.old,C'.os,C'.gens,fun a e=>C'.res a (fB.mpr e),fun env he=> ?_,fun a b l h1 h2=> ?_,fun a g=>qd a (lg a g) (C'.disj a (.inl g)),C'.tab⟩,iO _ _ I.isFrame nf, ?_,fun x l e q=> ?_,fun hc x e=> ?_, ?_⟩, ?_,⟨?_,sm⟩,rb⟩
 ·refine bc fun no=> ?_
  obtain ⟨q,L,d,y,e,r,z,mm⟩:=C'.fr env he;obtain ⟨_,L',d',y',e',r',_⟩:=I.core.fr env he;refine no ?_;clear no;rw [e] at e';cases e';exact ⟨q,L,d,y,e,r'.imp (g1 _) fun r=>iO _ _ r nf,z,mm⟩
 ·have key: ∀x,bt p lab lab1 x=some l→(lab x=some l∧p l=false)∨(lab1 x=some l∧p l=true):=fun x=>jO hq
  exact (key a h1).elim (fun x=>(key b h2).elim (fun y=>I.core.inj _ _ _ x.1 y.1) fun y=>D4 (x.2.symm.trans y.2)) fun x=>(key b h2).elim (fun y=>D4 (y.2.symm.trans x.2)) fun y=>C'.inj _ _ _ x.1 y.1
 ·refine bc fun no=> ?_
  obtain ⟨cl,es,n,h1,h2,h3,h4⟩:=I.frame;refine no ?_;clear no;exact ⟨cl,es,n,(vo _ nf _ I.isFrame).2 _ _ _ h1 h2,h2,h3,fun x l e q=>let ⟨v,h5,h6⟩:=h4 x l e q;⟨v,h5,j9 kr (vo _ (hp _ rfl)) sm h6⟩⟩
 ·refine bc fun no=> ?_
  obtain ⟨h1,a,v,h2,h3,h4,h5,h6⟩:=I.cells x l e q;refine no ?_;clear no;refine ⟨h1,a,v,h2,fun hc=>g1 _ (h3 hc),fun hc=>iO _ _ (h4 hc) (hp _ rfl), ?_,j9 kr (vo _ (hp _ rfl)) sm h6⟩
  cases lh:c.comp with
  |true=>exact (k.at a _ _ _ (aB fun l e'=>by rw [I.core.disj a (h3 lh)] at e';cases e') h5 (fun e=>nomatch e)).1
  |false=>exact (vo _ (hp _ rfl) a (h4 lh)).2 _ _ _ h5 (fun e=>nomatch e)
 ·refine bc fun no=> ?_
  obtain ⟨a,v,h1,h2,h3⟩:=I.bare hc x e;refine no ?_;clear no;exact ⟨a,v,h1,iO _ _ h2 (hp _ rfl),(vo _ (hp _ rfl) a h2).2 _ _ _ h3 (fun e=>nomatch e)⟩
 ·dsimp only
  rcases hσ with ⟨h,_⟩|⟨h,_⟩
  ·rw [if_neg (by rw [h];simp)]
   exact ee kr (fun L _=>vo L (h L)) I.slot
  ·rw [if_pos (h _ rfl)]
   refine ee (fun a c' d x n q _=>⟨q,fun z=>n (fB.mpr z)⟩) (fun L hL a e=>⟨?_,fun _ _ _ q _=>q⟩) dQ;exact q9 e fun l' e' hn=>Ph (e.symm.trans (C'.disj a (.inr ⟨l',e',hn⟩)))
 ·intro a o e q hc
  obtain ⟨q',e'⟩:=k a o (aB fun l e'=>by rw [e] at e';cases e') q hc;exact ⟨q',qd a e e'⟩
 ·intro a x e
  exact (jO hq e).elim (fun q=>q.1) fun q=>nomatch (only _ _ q.1).1
noncomputable def aQ(σ:Option Slot):cP→Bool:=fun l=>l.ofSlot&&σ.isSome
noncomputable def dM(c:Fc)(sc:Scope)(cl:List (Str×Addr))(p:cP→Bool)(lab:ag)(D C:Addr):Fc:=⟨c.x,c.A,bY p (aZ c.G D) lab,compEnvC sc cl C c.env,c.outer,true⟩
section
variable{c:Fc}{ns:ab}{sc:Scope}{cl:List (Str×Addr)}{p:cP→Bool}{lab:ag}{D C:Addr}{ρ ρ':List (Str×Loc)}(O:dq c)(N:aT c ns)(hs:dI sc=true)(hc:uE ns ρ sc.names ρ')
include O
theorem je(hs:dI sc=true):sc.kind= .function∧∀q∈sc.names,sc.names.lookup q.1=some q.2:=by
 obtain ⟨h1,h2⟩:=Bool.and_eq_true_iff.mp hs;exact ⟨beq_iff_eq.mp h1,fun q m=>beq_iff_eq.mp (List.all_eq_true.mp h2 q m)⟩
include N
theorem fE{x:Str}(h:gf ns x=true):c.env.kindOf x=some .cell:=by
 exact ((Bool.or_eq_true _ _).mp h).elim (fun h=>(N.cell x (beq_iff_eq.mp h)).2) fun h=>N.free x (beq_iff_eq.mp h)
include hs hc
theorem iJ{x:Str}{k:NameKind}(h:sc.names.lookup x=some k):(dM c sc cl p lab D C).env.kindOf x=some (if k= .free then .cell else k):=
 Mine.m9 O.kind h fun e=>fE O N ((hc.all x (e▸dE h)).1)
theorem Cw:aT (dM c sc cl p lab D C) sc.names:=
 ⟨fun x e=>iJ O N hs hc e,fun x e=>absurd rfl (hc.cell _ (dE e)),fun x e=>iJ O N hs hc e,fun x e=>iJ O N hs hc e,(fun e=>nomatch e)⟩
theorem Cy(nk: ∀x,(x,NameKind.free)∈sc.names→cl.lookup x=c.env.cells.lookup x):dq (dM c sc cl p lab D C):=by
 refine ⟨O.K,O.lim,O.bi,(je O hs).1,O.globals,O.builtins,O.handled,O.frames,O.guards,(fun e=>nomatch e),O.hasFrame,O.depth,O.units,fun x e=> ?_,O.mn⟩;have key: ∀(l:List (Str×NameKind)),(∀q∈l,q∈sc.names)→(l.map fun (n,k)=>if (k==NameKind.free&&c.env.scope.kind== .function&&c.env.kindOf n==some .cell) then (n,NameKind.cell) else (n,k)).lookup x=some .cell→(x,NameKind.free)∈sc.names:=by
  intro l
  induction l with
  |nil=>intro _ e;exact nomatch e
  |cons q r ih=>
   intro hm e;obtain ⟨n,k⟩:=q;replace e:List.lookup x ((if (k==NameKind.free&&c.env.scope.kind== .function&&c.env.kindOf n==some .cell)=true then (n,NameKind.cell) else (n,k))::_)=some .cell:=e
   by_cases hk:(k==NameKind.free&&c.env.scope.kind== .function&&c.env.kindOf n==some .cell)=true
   ·rw [if_pos hk] at e
    refine fj e (fun h1 _=> ?_) fun e=>ih (fun q m=>hm q (List.mem_cons_of_mem _ m)) e;have m0:=hm _ List.mem_cons_self;rw [beq_iff_eq.mp (Bool.and_eq_true_iff.mp (Bool.and_eq_true_iff.mp hk).1).1] at m0;exact h1▸m0
   ·rw [if_neg hk] at e
    exact fj e (fun _ h2=>absurd h2 (hc.cell _ (hm _ List.mem_cons_self))) fun e=>ih (fun q m=>hm q (List.mem_cons_of_mem _ m)) e
 have m:=key sc.names (fun _ m=>m) e;obtain ⟨a,ha⟩:=O.cellsOk x (fE O N (hc.all x m).1);exact ⟨a,(nk x m).trans ha⟩
end
noncomputable def aC:Obj:={cls:=.type "list",dict:=none,data:=.seq ([]:List Value).toArray}
noncomputable def dO:Obj:={cls:=.type "dict",data:=.dict #[]}
section
variable{c:Fc}{ns:ab}{sc:Scope}{cl:List (Str×Addr)}{lab:ag}{S:St}{s:Shared}{ρ':List (Str×Loc)}(O:dq c)(N:aT c ns)(hs:dI sc=true)
include O N hs
theorem zZ(hc:uE ns S.ρ sc.names ρ')(nk: ∀x,(x,NameKind.free)∈sc.names→cl.lookup x=c.env.cells.lookup x)(hp:qi S.σ ρ'=true)(I:Inv c lab S s):
  Inv (dM c sc cl (aQ S.σ) lab s.heap.objs.size (s.heap.push aC).objs.size) (cy (s.heap.push aC).objs.size .frame (aW (aQ S.σ) lab)) ⟨ρ',S.σ⟩ {s with heap:=(s.heap.push aC).push dO}:=by
 have I1:=I.reserve (o:=aC) (fun e=>nomatch e) rfl rfl;have C1:=dG (p:=aQ S.σ) I1.core rfl;have hb:c.x.base.objs.size≤(s.heap.push aC).objs.size:=bx I1;have C2:=ch.newLab C1 (L:=.frame) (o:=dO) (fun a e=>by have:=(aq.mp e).2;exact nomatch this) (fun e=>nomatch e) rfl rfl hb;have gP:(s.heap.push aC).objs.size=s.heap.objs.size+1:=Heap.size_push ..;have kp: ∀b o,s.heap.get? b=some o→((s.heap.push aC).push dO).get? b=some o:=fun b o e=>Heap.get?_push_of_some _ (Heap.get?_push_of_some _ e);have kl: ∀a,aW (aQ S.σ) lab a≠none→lab a≠none:=fun a h e=>h (aB fun l e'=>by rw [e] at e';cases e');have kr: ∀a c' d x,¬Rs c.G lab a→At s.heap a c' d x→c'≠ .none→At ((s.heap.push aC).push dO) a c' d x∧¬Rs (bY (aQ S.σ) (aZ c.G s.heap.objs.size) lab) (cy (s.heap.push aC).objs.size .frame (aW (aQ S.σ) lab)) a:=fun a c' d x n q _=>by
  refine ⟨q.keep kp,fun z=> ?_⟩;have AK:=q.lt;rcases z with ((z|z)|⟨l,z,_⟩)|z
  ·exact n (.inl z)
  ·exact Nat.ne_of_lt AK z
  ·exact n (.inr (by rw [z];exact fun e=>nomatch e))
  ·unfold cy at z
   rw [if_neg (Nat.ne_of_lt (gP▸Nat.lt_succ_of_lt AK))] at z;exact n (.inr (kl a z))
 have Nm:aW (aQ S.σ) lab (s.heap.push aC).objs.size=none:=by
  cases q:aW (aQ S.σ) lab (s.heap.push aC).objs.size with
  |none=>rfl
  |some l=>exact absurd (.inr (by rw [q];exact fun e=>nomatch e)) (C1.new (Nat.le_refl _))
 have free: ∀x l,ρ'.lookup x=some l→(dM c sc cl (aQ S.σ) lab s.heap.objs.size (s.heap.push aC).objs.size).env.kindOf x=some .cell:=fun x l e=>
  iJ O N hs hc (k:=.free) ((je O hs).2 (x,.free) (hc.got x l e).1)
 refine ⟨C2,if_pos rfl,⟨.type "dict",#[],0,.of (Heap.get?_push_size _ rfl),(fun e=>nomatch e), ?_,fun x l e q=> ?_⟩,fun x l e q=> ?_,(fun e=>nomatch e), ?_⟩
 ·intro e he;exact absurd he (Array.not_mem_empty _)
 ·rw [free x l e] at q;exact nomatch q
 ·refine bc fun no=> ?_
  obtain ⟨m,e',hk⟩:=hc.got x l e;have RX:=fE O N (hc.all x m).1;obtain ⟨_,a,v,k2,k3,k4,k5,k6⟩:=I.cells x l e' (by rw [RX];exact fun e=>nomatch e);refine no ?_;clear no;refine ⟨free x l e,a,v,(nk x m).trans k2,fun _=> ?_,(fun e=>nomatch e),k5.keep kp, ?_⟩
  ·cases lh:c.comp with
   |true=>exact .inl (.inl (k3 lh))
   |false=>exact .inr ⟨_,k4 lh,rfl⟩
  ·rcases hk with ⟨d,rfl⟩|rfl
   ·exact aD.mono kr k6
   ·refine bc fun no=> ?_
    obtain ⟨b,eb,hb⟩:=k6;refine no ?_;clear no;refine ⟨b,eb,bA (aq.mpr ⟨hb, ?_⟩) Nm⟩;exact ((Bool.or_eq_true _ _).mp hp).elim (fun hp=>by unfold aQ;rw [hp];rfl) fun hp=>nomatch pi hp e
 ·show bf _ _ _ _ S.σ
  have gQ:=I.slot
  cases hσ:S.σ with
  |none=>trivial
  |some σ=>
   rw [hσ] at gQ kr Nm;refine ee kr (fun L hL a e=>⟨bA (aq.mpr ⟨e,by unfold aQ;rw [hL];rfl⟩) Nm,fun _ _ _ q _=>q.keep kp⟩) gQ
end
section
variable{P:Fc→Prop}{r:ba}(H:aY P r){c:Fc}{ns:ab}(hP:P c)(hN:aT c ns)
include H hP hN
theorem zR{env:Env}(ifs:List Expr):(forIn ifs false fun c r=>if r=true then do let ok ←isTrue c env (eval c env);pure (ForInStep.yield ok) else pure (ForInStep.yield r):Sem Bool)=pure false:=by
 induction ifs with
 |nil=>rfl
 |cons e rest ih=>
  rw [List.forIn_cons,if_neg Bool.false_ne_true,pure_bind];exact ih
theorem Fr: ∀(ifs:List Expr),gL c (forIn ifs true fun e r=>if r=true then do let ok ←isTrue e c.env (eval e c.env);pure (ForInStep.yield ok) else pure (ForInStep.yield r)) (nt r ns ifs) p0:=by
 intro ifs
 induction ifs with
 |nil=>
  intro S lab s res S' hf I Q E hQ hE;exact wpAny_pure (dR hQ hf I (Kept.refl _ _) (.refl _) rfl)
 |cons e rest ih=>
  intro S lab s res S' hf I Q E hQ hE;rw [List.forIn_cons,if_pos rfl];refine wpAny_bind (wpAny_bind ((H.evT c ns hP hN e).step hf I hE fun b1 b2 S1 lab1 s1 h1 I1 k1 m1 r1 dm=>wpAny_pure ?_))
  cases (show b1=b2 from r1)
  dsimp only
  cases b1 with
  |true=>exact ih S1 lab1 s1 res S' h1 I1 Q E (ck.step hQ k1 m1) dm
  |false=>
   exact wpAny_of_eq (zR H hP hN rest) (dR hQ h1 I1 k1 m1 rfl)
omit H hP hN in
theorem rP{w:World}{A:Around}{s:Shared}{l:Addr}{items:Array Value}{n:Nat}{x:Value}{Q:Value→Shared→Prop}{E:Value→Shared→Prop}(hl:IsL s.heap l items n)(hz:items.size≤sizeLine)(hQ:Q .none {s with heap:=s.heap.update l (Obj.mapSeq fun xs=>xs.push x)}):
  wpAny (model pw w) A (call (.builtin "list.append") [.ref l,x]) Q E s:=by
 refine wpAny_call_entry slot_list_append ⟨_,hl,rfl⟩ entry_list_append ?_ (args_list_append _ _);show wpAny _ _ (updateSeq l (·.push x)>>=fun _=>ret .none) _ _ s;exact wpAny_bind (wpAny_updateSeq hl rfl (wpAny_pure ⟨.none,rfl,hQ⟩) hz (by rw [Array.size_push];lia))
omit H hP hN in
inductive Ov(c:Fc)(r:ba)(ns:ab)(target elt:Expr)(ifs:List Expr)(ds:List D)(S':St)(ys:List D)(St:Nat→ag→Heap→Prop)(lab bS:ag)(h0:Heap)(Dl:Addr)(n:Nat)(s':Shared):Prop where
 |mk (i:Nat) (lab':ag) (S1:Mine.St) (vs:Array Value) (n1:Nat) (Eh LG:List D) (e1:n+i=ds.length) (e2:Eh.length≤i) (e3:compLoop r ns target ifs elt (ds.drop i) S1=some (.ok LG,S')) (e4:ys=Eh++LG) (e5:Inv c lab' S1 s') (e6:St i lab' s'.heap) (e7:Kept bS h0 lab' s'.heap) (e8:bN lab lab')
  (e9:At s'.heap Dl (.type "list") none (.seq vs n1)) (Mg:an s'.heap (Rs c.G lab') vs.toList Eh)
theorem t8{elt target iter:Expr}{ifs:List Expr}{sc:Scope}{pos:Pos}{It Dl:Addr}{ds:List D}{iR:Nat→Heap→Prop}{fp:List Addr}{vals:List Value}{es:List D}
  (it:iS c c target It ds (· =It) (AB c.x It iR fp vals es c.G)) (fr: ∀i h h',iR i h→(∀b∈fp,∀o,h.get? b=some o→h'.get? b=some o)→iR i h') (hD:c.G Dl) (hn:ds.length≤1000000)
  {lab bS:ag} {h0:Heap} {S S':St} {s:Shared} {ys:List D} (hf:compLoop r ns target ifs elt ds S=some (.ok ys,S')) (I:Inv c lab S s) (st:AB c.x It iR fp vals es c.G 0 lab s.heap) (k0:Kept bS h0 lab s.heap) (hI:h0.objs.size≤It) (M6:h0.objs.size≤Dl) (Sy:Dl≠It) (Nk: ¬c.G It)
  {n0:Nat} (ha:At s.heap Dl (.type "list") none (.seq #[] n0)) {R:Result→Shared→Prop}
  (hR: ∀lab' s' vs n,Inv c lab' S' s'→At s'.heap Dl (.type "list") none (.seq vs n)→an s'.heap (Rs c.G lab') vs.toList ys→Kept bS h0 lab' s'.heap→bN lab lab'→R (.ok .next) s'):
  codeAny (model pw c.x.w) c.A (.compLoop (.ListComp elt [⟨target,iter,ifs,0⟩] sc pos) 0 (.ref It) (.ref Dl) c.env) R s:=by
 have O:=H.ok c hP;refine codeAny_loop rfl (Ov c r ns target elt ifs ds S' ys (AB c.x It iR fp vals es c.G) lab bS h0 Dl) ?_ ds.length ⟨0,lab,S,#[],n0,[],ys,rfl,Nat.le_refl _,by rw [List.drop_zero];exact hf,rfl,I,st,k0,bN.refl _,ha,.nil⟩
 rintro n s2 ⟨i,be,S2,vs,n1,Eh,LG,PC,GE,h2,rfl,I2,F7,k2,m2,GG,DX⟩
 show wpAny _ _ ((compTurn (.ListComp elt [⟨target,iter,ifs,0⟩] sc pos) 0 (.ref It) (.ref Dl) c.env).onRaise (fun x=>do noteFrame x c.env;theTreesLotGoes x)) _ _ s2;refine wpAny_noted ?_;rw [compTurn_list];have nM: ∀{s3 s4:Shared} {iW:ag},Kept bS h0 iW s3.heap→(∀b o,¬(b=It)→s3.heap.get? b=some o→s4.heap.get? b=some o)→Kept bS h0 iW s4.heap:=fun kk hh a o e q z=>by
  refine bc fun no=> ?_;obtain ⟨⟨sl,q1,q2⟩,q3⟩:=kk a o e q z;refine no ?_;clear no;exact ⟨⟨sl,hh a _ (fun w=>Nat.lt_irrefl _ (Nat.lt_of_lt_of_le (Heap.lt_size q) (w▸hI))) q1,q2⟩,q3⟩
 have iw:=fun h' b hb=>it.idle (fun a q=>by rw [q];exact Nk) i be s2 F7 h' b hb;have iO: ∀{s3:Shared},(∀b o,¬(b=It)→s2.heap.get? b=some o→s3.heap.get? b=some o)→At s3.heap Dl (.type "list") none (.seq vs n1)∧an s3.heap (Rs c.G be) vs.toList Eh:=fun kw=>
  ⟨let ⟨sl,q1,q2⟩:=GG;⟨sl,kw _ _ Sy q1,q2⟩,cI kw (iw _) DX⟩
 cases hd:ds[i]? with
 |none=>
  obtain rfl:i=ds.length:=Nat.le_antisymm (PC▸Nat.le_add_left _ _) (List.getElem?_eq_none_iff.mp hd);rw [List.drop_length] at h2;refine wpAny_bind (wpAny_standAt (wpAny_bind (it.last be _ s2 _ _ I2 F7 fun s3 I3 kw=>wpAny_pure ?_)));refine bc fun no=> ?_;obtain ⟨Sm,QH⟩:=iO kw;obtain ⟨e1,e2⟩:=eK h2;refine no ?_;clear no;injection e1 with e1
  exact hR be s3 vs n1 (e2▸I3) Sm (by rw [e1,List.append_nil];exact QH) (nM k2 kw) m2
 |some d=>
  obtain ⟨hi,M3⟩:=List.getElem?_eq_some_iff.mp hd;rw [List.drop_eq_getElem_cons hi,M3,pA] at h2;refine wpAny_bind (wpAny_standAt (wpAny_bind (it.item i be S2 s2 d _ _ hd I2 F7 fun v s3 I3 kw go=> ?_)));dsimp only;refine wpAny_bind (go _ _ fun s4 I4 rU Mo rv=> ?_);have Pl: ∀b o,¬(b=It)→s2.heap.get? b=some o→s4.heap.get? b=some o:=fun b o nb e=>rU b o nb (kw b o nb e);have k4:=nM k2 Pl;obtain ⟨Sl,QG⟩:=iO Pl;refine nd h2 (fun q _=>absurd q ez) fun u S3 q q'=> ?_;obtain ⟨GP,GQ⟩:=mH PC hi;refine wpAny_bind (kA O hN q I4 rv O.handled fun s5 I5 k5=> ?_);have Np: ∀{j:Nat} {la lb:ag} {sa sb:Shared},Kept la sa.heap lb sb.heap→AB c.x It iR fp vals es c.G j la sa.heap→AB c.x It iR fp vals es c.G j lb sb.heap:=fun k st=>it.kept _ _ _ _ _ k st;have dk: ∀{la lb:ag} {sa sb:Shared} {S0:St},Inv c la S0 sa→Kept la sa.heap lb sb.heap→At sa.heap Dl (.type "list") none (.seq vs n1)→At sb.heap Dl (.type "list") none (.seq vs n1):=fun Ia k q=>(k.at _ _ _ _ (Ia.core.disj _ hD) q (fun e=>nomatch e)).1;refine wpAny_bind ((Fr H hP hN ifs).step q' I5 lK fun b1 b2 S6 AX s6 h6 I6 k6 m6 r6 Sw=> ?_)
  cases (show b1=b2 from r6)
  have F6:=Np k6 (Np k5 Mo);have PX:=dk I5 k6 (dk I4 k5 Sl);have O8:=k6.reps (k5.reps QG)
  cases b1 with
  |false=>
   exact wpAny_pure ⟨rfl,n - 1,GP,i+1,AX,S6,vs,n1,Eh,LG,GQ,Nat.le_succ_of_le GE,h6,rfl,I6,F6,(k4.trans k5).trans k6,m2.trans m6.2,PX,O8⟩
  |true=>
   refine wpAny_bind (wpAny_bind ((aM H hP hN elt).step h6 I6 lK fun yv y S7 GU s7 h7 I7 k7 m7 r7 T5=>wpAny_bind ?_));have Qy:=Np k7 F6;have Nd:=dk I6 k7 PX;have O7:=k7.reps O8;refine nd h7 (fun _ z=>nomatch z) fun Qq S8 h8 z=> ?_;refine bc fun no=> ?_;obtain ⟨e1,rfl⟩:=eK z;refine no ?_;clear no;injection e1 with e1
   have gP:vs.size≤sizeLine:=by rw [sizeLine_eq,jh.size O7];exact Nat.le_trans GE (Nat.le_trans (Nat.le_of_lt hi) (Nat.le_trans hn (by decide)))
   refine rP Nd.exact gP ?_;refine bc fun no=> ?_;obtain ⟨u1,n',u2⟩:=eZ Nd.exact fun xs=>xs.push yv;refine no ?_;clear no;have lD:=I7.core.disj _ hD;have Gu: ∀b o,¬(b=Dl)→s7.heap.get? b=some o→(s7.heap.update Dl (Obj.mapSeq fun xs=>xs.push yv)).get? b=some o:=fun b o nb e=>(u1.2 b nb).trans e;have MB: ∀b,b=Dl→sz c GU s7.heap (s7.heap.update Dl (Obj.mapSeq fun xs=>xs.push yv)) b:=fun b hb=>by
    subst hb;exact ⟨(I7.core.res _ (.inl hD)).1,lD,.inr ⟨hD,⟨_,_,_,Nd,(fun e=>nomatch e),(fun e=>nomatch e),fun e=>nomatch e⟩,_,_,_,u2,fun e=>nomatch e⟩⟩
   have I8:=I7.touchW (t:=s7.toks) Gu MB;refine wpAny_pure (wpAny_pure ⟨rfl,n - 1,GP,i+1,GU,S7,vs.push yv,n',Eh++ [y],Qq,GQ,by rw [List.length_append];exact Nat.succ_le_succ GE,h8,by rw [e1,List.append_assoc];rfl,I8, ?_, ?_,(m2.trans m6.2).trans m7.2,u2, ?_⟩)
   ·refine bc fun no=> ?_
    obtain ⟨⟨s0,hb⟩,nr,QF⟩:=Qy;refine no ?_;clear no;exact ⟨⟨fr _ _ _ s0 fun b hb o e=>Gu b o (fun q=>nr b hb (.inl (q▸hD))) e,hb⟩,nr,cI Gu MB QF⟩
   ·have Q1:=((k4.trans k5).trans k6).trans k7
    intro a o e q z;refine bc fun no=> ?_;obtain ⟨⟨sl,q1,q2⟩,q3⟩:=Q1 a o e q z;refine no ?_;clear no;exact ⟨⟨sl,Gu a _ (fun w=>Nat.lt_irrefl _ (Nat.lt_of_lt_of_le (Heap.lt_size q) (w▸M6))) q1,q2⟩,q3⟩
   ·rw [Array.toList_push]
    exact cI Gu MB (O7.append (.cons _ _ _ _ r7 .nil))
end
noncomputable def qj(P:Fc→Prop):Prop:=∀c c',P c→dq c'→c'.x=c.x→c'.A=c.A→c'.outer=c.outer→P c'
theorem rC{M:Model}{A:Around}{E:Value→Shared→Prop}{s:Shared}{scope:Scope}{globals:Addr}{cl:List (Str×Addr)}{qual:Str}{env:Env}{Q:Env→Shared→Prop}(hc: ∀x∈scope.names,x.2≠ .cell)
  (hQ:Q (newEnv scope s.heap.objs.size globals cl qual none .none (some env) builtinsNs) {s with heap:=s.heap.push dO}):wpAny M A (newFunctionEnv scope globals cl [] qual none .none (some env)) Q E s:=by
 simp only [newFunctionEnv,Option.isSome_some,if_true];refine wpAny_bind (wpAny_alloc ?_);rw [forIn_yield_id cl (fun x hx c=>by
   obtain ⟨name,kind⟩:=x;have:(kind==NameKind.cell)=false:=by simpa using hc _ hx
   simp only [this,Bool.false_eq_true,if_false])]
 exact wpAny_bind (wpAny_pure (wpAny_bind (wpAny_pure (wpAny_pure hQ))))
theorem qX{c:Fc}{sc:Scope}{cl:List (Str×Addr)}{p:cP→Bool}{lab:ag}{h:Heap}{a:Addr}(ha:a<h.objs.size)(n: ¬Rs c.G lab a):
  ¬Rs (dM c sc cl p lab h.objs.size (h.push aC).objs.size).G (cy (h.push aC).objs.size .frame (aW p lab)) a:=by
 have gP:(h.push aC).objs.size=h.objs.size+1:=Heap.size_push ..
 rintro (((z|z)|⟨l,z,_⟩)|z)
 ·exact n (.inl z)
 ·exact Nat.ne_of_lt ha z
 ·exact n (.inr (by rw [z];exact fun e=>nomatch e))
 ·unfold cy at z
  rw [if_neg (Nat.ne_of_lt (gP▸Nat.lt_succ_of_lt ha))] at z;refine n (.inr fun e=>z (aB fun l e'=>by rw [e] at e';cases e'))
theorem rO{ns names:ab}(h:fQ ns names=true):(∀q∈names,q.2≠ .cell)∧∀x,(x,NameKind.free)∈names→gf ns x=true:=by
 replace h:=List.all_eq_true.mp h;refine ⟨fun q m e=> ?_,fun x m=>h _ m⟩;have:=h q m;rw [e] at this;exact nomatch this
section
variable{P:Fc→Prop}{r:ba}(H:aY P r)(HG:qj P){c:Fc}{ns:ab}(hP:P c)(hN:aT c ns)
include H HG hP hN
theorem u9{elt target iter:Expr}{ifs:List Expr}{sc:Scope}{pos Op:Pos}{use:Option (Value→Sem Unit)}{S S':St}{lab:ag}{s:Shared}{res:bH (List D)}(hf:dW r ns elt target iter ifs sc S=some (res,S'))(I:Inv c lab S s){Q:Value→Shared→Prop}{E:Value→Shared→Prop}
  (hQ: ∀l (C Dl:Addr) lu sn cls es n,res= .ok l→¬c.G C→(∀env∈c.outer,env.frame≠some C)→Inv (withG c (aZ c.G C)) lu S' sn→At sn.heap C cls none (.dict es n)→cls≠ .none→StrKeys es→aV lab lu→
   (∀be h2,Kept lu sn.heap be h2→∀h',Heap.SameBut C h2 h'→Kept lab s.heap be h')→ei (withG c (aZ c.G C)) sn.heap lu (.ref Dl) (.lst l)→compPost (model pw c.x.w) c.A E use Q (.ref Dl) C (.ok .next) sn) (hE:dl c lab s S' res E):
  wpAny (model pw c.x.w) c.A (comprehension (.ListComp elt [⟨target,iter,ifs,0⟩] sc pos) sc c.env Op (newList []) false (eval iter c.env) use) Q E s:=by
 have O:=H.ok c hP;unfold dW at hf
 by_cases xd:dI sc=true∧fQ ns sc.names=true
 rotate_left
 ·rw [if_neg xd] at hf;exact cg hf
 rw [if_pos xd] at hf;refine bc fun no=> ?_;obtain ⟨hs,RZ⟩:=xd;obtain ⟨Ft,Cj⟩:=rO RZ;obtain ⟨DE,PB⟩:=je O hs;obtain ⟨cl,us,nk⟩:=iV (env:=c.env) (sc:=sc) fun x m=>O.cellsOk x (fE O hN (Cj x m));refine no ?_;clear no;have LZ: ∀o S1,eG r ns iter S=some (o,S1)→nI iter=true:=fun o S1 q=>Decidable.byContradiction fun h=>by unfold eG at q;rw [if_neg h] at q;exact cg q
 have xo:nI iter=true:=nd hf (fun q _=>LZ _ _ q) fun _ _ q _=>LZ _ _ q;have nj:eG r ns iter=eX r ns iter:=by unfold eG;rw [if_pos xo]
 rw [nj] at hf;refine nd hf (fun q e=>wpAny_comprehension_free (use:=use) rfl (sF xo c.env) us DE (fun q m hq=>by have:=PB q m;rw [hq] at this;exact this) (fD H hP hN (target:=target) q I (fun _ e=>nomatch e) fun e1 lab' s' _=>hE e1 lab' s' e)) fun ds S1 q hf=>ae hf fun ρ' On hf=>aH hf fun aP hf=>ae hf fun qq hq hf=>ae hf fun l hl hf=>aH hf fun nO hf=> ?_;refine bc fun no=> ?_;obtain ⟨o,Sn⟩:=qq;obtain rfl:o= .ok l:=lI hl;obtain ⟨l2,e,KV⟩:=jb hq;obtain rfl:l=l2:=by injection e
 refine no ?_;clear no;refine wpAny_comprehension_free (use:=use) rfl (sF xo c.env) us DE (fun q m hq=>by have:=PB q m;rw [hq] at this;exact this) (fD H hP hN (target:=target) q I (fun nG e=> ?_) (fun e lab' s' q=>nomatch q));obtain rfl:ds=nG:=by injection e
 intro It fp iR vals es bS s0 s1 fr I0 kp Pp RO st hz Gd k0 m0;have M7:=ub _ _ On;refine wpAny_newObj_type (rC Ft ?_);have I1:=I0.keeps kp;have gP:(s1.heap.push aC).objs.size=s1.heap.objs.size+1:=Heap.size_push ..;have I2:=zZ O hN hs M7 nk aP.2 I1;have Nj:P (dM c sc cl (aQ S1.σ) bS s1.heap.objs.size (s1.heap.push aC).objs.size):=HG c _ hP (Cy O hN hs M7 nk) rfl rfl rfl;have Sq:aT (dM c sc cl (aQ S1.σ) bS s1.heap.objs.size (s1.heap.push aC).objs.size) sc.names:=Cw O hN hs M7;have kh:=al kp;have wY:s0.heap.objs.size≤s1.heap.objs.size:=Nat.le_trans hz (Nat.le_of_lt Gd);have k2: ∀b o,s0.heap.get? b=some o→((s1.heap.push aC).push dO).get? b=some o:=fun b o e=>Heap.get?_push_of_some _ (Heap.get?_push_of_some _ (kh _ _ e));have Pn: ∀b o,s1.heap.get? b=some o→((s1.heap.push aC).push dO).get? b=some o:=fun b o e=>Heap.get?_push_of_some _ (Heap.get?_push_of_some _ e);refine bc fun no=> ?_;obtain ⟨⟨Qz,Si⟩,Rq,D7⟩:=st;refine no ?_;clear no;have yl:AB c.x It iR fp vals es (dM c sc cl (aQ S1.σ) bS s1.heap.objs.size (s1.heap.push aC).objs.size).G 0 (cy (s1.heap.push aC).objs.size .frame (aW (aQ S1.σ) bS)) ((s1.heap.push aC).push dO):=
  ⟨⟨fr _ _ _ Qz fun b _ o e=>Pn b o e,Si⟩,fun b hb=>qX (RO b hb) (Rq b hb),D7.mono fun a _ _ _ n q _=>⟨q.keep Pn,qX q.lt n⟩⟩
 have MU:Kept (aW (aQ S1.σ) bS) s0.heap (cy (s1.heap.push aC).objs.size .frame (aW (aQ S1.σ) bS)) ((s1.heap.push aC).push dO):=fun a o e q z=>by
  refine ⟨⟨o.slots,k2 a o q,fun _=>rfl⟩, ?_⟩;unfold cy;rw [if_neg (Nat.ne_of_lt (Nat.lt_of_lt_of_le (Heap.lt_size q) (by rw [gP];exact Nat.le_succ_of_le wY)))];exact e
 have Nk: ¬(dM c sc cl (aQ S1.σ) bS s1.heap.objs.size (s1.heap.push aC).objs.size).G It:=by
  have Sv:s0.heap.get? It=none:=Heap.get?_none_of_le hz;have Qb: ¬Rs c.G bS It:=fun z=>by
   obtain ⟨_,_,_,_,⟨_,q,_⟩,_⟩:=I0.core.res It z;rw [Sv] at q;cases q
  rintro ((z|z)|⟨l',z,_⟩)
  ·exact Qb (.inl z)
  ·exact Nat.ne_of_lt Gd z
  ·exact Qb (.inr (by rw [z];exact fun e=>nomatch e))
 have Dn:codeAny (model pw c.x.w) c.A (.compLoop (.ListComp elt [⟨target,iter,ifs,0⟩] sc pos) 0 (.ref It) (.ref s1.heap.objs.size) (dM c sc cl (aQ S1.σ) bS s1.heap.objs.size (s1.heap.push aC).objs.size).env) (compPost (model pw c.x.w) c.A E use Q (.ref s1.heap.objs.size) (s1.heap.push aC).objs.size) {s1 with heap:=(s1.heap.push aC).push dO}:=by
  refine t8 H Nj Sq (Pp _ rfl rfl) fr (.inl (.inr rfl)) aP.1 KV I2 yl MU hz wY (Nat.ne_of_gt Gd) Nk (.of (Heap.get?_push_of_some _ (Heap.get?_push_size _ rfl))) ?_;intro lab' sn vs n I' Nf F8 k' m';have GI:s0.heap.get? (s1.heap.push aC).objs.size=none:=Heap.get?_none_of_le (by rw [gP];omega);have P7:s0.heap.get? s1.heap.objs.size=none:=Heap.get?_none_of_le wY;have fresh: ∀a,s0.heap.get? a=none→¬Rs c.G bS a:=fun a e z=>by
   obtain ⟨_,_,_,_,⟨_,q,_⟩,_⟩:=I0.core.res a z;rw [e] at q;cases q
  have P8:lab' (s1.heap.push aC).objs.size=some .frame:=I'.isFrame;have AI: ∀a,Rs (bY (aQ S1.σ) (aZ c.G (s1.heap.push aC).objs.size) bS) (aW (aQ S1.σ) lab') a→Rs (dM c sc cl (aQ S1.σ) bS s1.heap.objs.size (s1.heap.push aC).objs.size).G lab' a:=by
   rintro a (((z|z)|z)|z)
   ·exact .inl (.inl (.inl z))
   ·refine .inr ?_
    rw [show a= (s1.heap.push aC).objs.size from z,P8];exact fun e=>nomatch e
   ·exact .inl (.inr z)
   ·exact .inr fun e=>z (aB fun l e'=>by rw [e] at e';cases e')
  have mv: ∀a c' d x,¬Rs (dM c sc cl (aQ S1.σ) bS s1.heap.objs.size (s1.heap.push aC).objs.size).G lab' a→At sn.heap a c' d x→c'≠ .none→At sn.heap a c' d x∧¬Rs (bY (aQ S1.σ) (aZ c.G (s1.heap.push aC).objs.size) bS) (aW (aQ S1.σ) lab') a:=
   fun a _ _ _ n q _=>⟨q,fun z=>n (AI a z)⟩
  have T4:=dG (p:=aQ S1.σ) I0.core rfl;have CP:aA (withG c (bY (aQ S1.σ) (aZ c.G (s1.heap.push aC).objs.size) bS)) (aW (aQ S1.σ) bS) s0 Sn.σ (aW (aQ S1.σ) lab') sn:=by
   refine ⟨⟨I'.core.old,I'.core.os,I'.core.gens,fun a e=>I'.core.res a (AI a e),fun env he=> ?_,fun a b l e e'=>I'.core.inj a b l (aq.mp e).1 (aq.mp e').1,fun a e=> ?_,I'.core.tab⟩, ?_,fun a o e q z=> ?_,fun _ a e=> ?_,fun a l e=> ?_⟩
   ·refine bc fun no=> ?_
    obtain ⟨q,L,d,y,e,r,z,m⟩:=I'.core.fr env he;obtain ⟨_,L',d',y',e',r',z',_⟩:=I0.core.fr env he;refine no ?_;clear no;rw [e] at e';cases e';exact ⟨q,L,d,y,e,.inl (r'.elim (fun g=>.inl (.inl g)) fun g=>.inr ⟨_,g,rfl⟩),z,m⟩
   ·rcases e with (e|e)|e
    ·exact aB fun l e'=>by rw [I'.core.disj a (.inl (.inl e))] at e';cases e'
    ·refine aB fun l e'=> ?_
     rw [show a= (s1.heap.push aC).objs.size from e,P8] at e'
     cases e';rfl
    ·exact aB fun l e'=>by rw [I'.core.disj a (.inr e)] at e';cases e'
   ·have gQ:=I'.slot
    cases hσ:Sn.σ with
    |none=>trivial
    |some σ=>
     have vj:S1.σ.isSome=true:=by rw [←nO,hσ];rfl
     have:=ee mv (fun L hL a e=>⟨aq.mpr ⟨e,by unfold aQ;rw [hL,vj];rfl⟩,fun _ _ _ q _=>q⟩) gQ;rw [hσ] at this;exact this
   ·obtain ⟨q1,q2⟩:=k' a o e q z
    exact ⟨q1,aB fun l e'=>by rw [q2] at e';cases e'⟩
   ·have Dd:aW (aQ S1.σ) bS (s1.heap.push aC).objs.size=none:=by
     cases q:aW (aQ S1.σ) bS (s1.heap.push aC).objs.size with
     |none=>rfl
     |some l=>exact absurd (.inr (by rw [(aq.mp q).1];exact fun e=>nomatch e)) (fresh _ GI)
    exact aq.mpr ⟨m' a (bA e Dd),(aq.mp e).2⟩
   ·have:=(aq.mp e).2
    unfold aQ at this;rw [Bool.and_eq_true] at this;exact ⟨this.1,by rw [nO];exact this.2⟩
  refine bc fun no=> ?_;obtain ⟨R1,R2,R3,R4⟩:=wM (G2:=aZ c.G (s1.heap.push aC).objs.size) I0 (fun _ h=>.inl h) (fun a h=>h.imp id fun h=>by rw [show a= (s1.heap.push aC).objs.size from h];exact GI) (p:=aQ S1.σ) (fun l hl=>by unfold aQ;rw [hl];rfl) CP (fun a l e=>(aq.mp e).2)
   (by
    cases vj:S1.σ.isSome with
    |false=>exact .inl ⟨fun l=>by unfold aQ;rw [vj,Bool.and_false],rfl⟩
    |true=>exact .inr ⟨fun l hl=>by unfold aQ;rw [vj,hl];rfl,by rw [nO,vj]⟩)
  have MD:(if aQ S1.σ .sobj=true then Sn.σ else S1.σ)=Sn.σ:=by
   cases vj:S1.σ.isSome with
   |true=>rw [if_pos (by unfold aQ;rw [vj];rfl)]
   |false=>
    rw [if_neg (by unfold aQ;rw [vj];exact Bool.false_ne_true)];rw [vj] at nO;rw [Option.isSome_eq_false_iff,Option.isNone_iff_eq_none] at vj nO;rw [vj,nO]
  rw [MD] at R1;obtain ⟨cls,SQ,n2,h1,h2,h3,_⟩:=I'.frame;refine no ?_;clear no;have D9: ¬c.G (s1.heap.push aC).objs.size:=fun g=>fresh _ GI (.inl g);refine fX hf fun e1 e2=>hQ l _ _ _ sn cls SQ n2 e1 D9 (fun env he q=> ?_) (e2▸R1) h1 h2 h3 (m0.trans R3) (fun be T7 Q2 h' iN=> ?_) ?_
  ·refine bc fun no=> ?_
   obtain ⟨_,L',d',y',e',r',⟨_,z',_⟩,_⟩:=I0.core.fr env he;refine no ?_;clear no;rw [q] at e';cases e';rw [GI] at z';cases z'
  ·refine k0.trans ?_
   have:=R2.trans Q2;intro a o e q z;refine bc fun no=> ?_;obtain ⟨⟨sl,q1,q2⟩,q3⟩:=this a o e q z;refine no ?_;clear no;exact ⟨⟨sl,(iN.2 a fun w=>by rw [w,GI] at q;exact nomatch q).trans q1,q2⟩,q3⟩
  ·refine R4 (.lst _ vs _ n Nf ?_ (F8.mono mv))
   intro z;rcases z with (((z|z)|⟨l',z,_⟩)|z)
   ·exact fresh _ P7 (.inl z)
   ·have:s1.heap.objs.size= (s1.heap.push aC).objs.size:=z
    omega
   ·exact fresh _ P7 (.inr (by rw [z];exact fun e=>nomatch e))
   ·exact z (aB fun l e'=>by rw [I'.core.disj _ (.inl (.inr rfl))] at e';cases e')
 exact codeAny_compStart_list Dn ((Pp (dM c sc cl (aQ S1.σ) bS s1.heap.objs.size (s1.heap.push aC).objs.size) rfl rfl).self 0 _ {s1 with heap:=(s1.heap.push aC).push dO} _ _ yl Dn)
end
section
variable{P:Fc→Prop}{r:ba}(H:aY P r)(HG:qj P){c:Fc}{ns:ab}(hP:P c)(hN:aT c ns)
include H HG hP hN
theorem rg(fn:au)(elt target iter:Expr)(ifs:List Expr)(sc:Scope)(pos:Pos):gL c (eval (.ListComp elt [⟨target,iter,ifs,0⟩] sc pos) c.env) (oD fn r ns (.ListComp elt [⟨target,iter,ifs,0⟩] sc pos)) (dc c):=by
 intro S lab s res S' hf I Q E hQ hE;replace hf:Ev.bind (dW r ns elt target iter ifs sc) (fun l=>.pure (.d (.lst l))) S=some (res,S'):=hf;have key: ∃o S1,dW r ns elt target iter ifs sc S=some (o,S1)∧((o= .bad∧res= .bad∧S1=S')∨∃l,o= .ok l∧res= .ok (.d (.lst l))∧S1=S'):=by
  rcases bind_some hf with ⟨q,rfl⟩|⟨l,S2,q,q'⟩
  ·exact ⟨_,_,q,.inl ⟨rfl,rfl,rfl⟩⟩
  ·refine bc fun no=> ?_
   obtain ⟨rfl,rfl⟩:=eK q';refine no ?_;clear no;exact ⟨_,_,q,.inr ⟨l,rfl,rfl,rfl⟩⟩
 refine bc fun no=> ?_;obtain ⟨o,S1,ho,hr⟩:=key;refine no ?_;clear no;rw [eval_ListComp];refine u9 H HG hP hN (use:=none) ho I (fun l C Dl lu sn cls es n e D9 Aw R1 h1 h2 h3 hm kd rv=> ?_) (fun e lab' s' q I' k' F'=> ?_)
 ·subst e
  rcases hr with ⟨q,_⟩|⟨l',q,rfl,rfl⟩
  ·exact nomatch q
  cases q
  refine ⟨_,h1.ns h3,fun h' iN=> ?_⟩;obtain ⟨I',rp⟩:=R1.dropAt D9 iN (t:=sn.toks) h1 Aw (fun _ e=>nomatch e) (fun _ e=>nomatch e);exact hQ _ (.d (.lst l)) lu _ rfl I' (kd lu sn.heap (Kept.refl _ _) h' iN) hm (rp rv)
 ·rcases hr with ⟨q,rfl,rfl⟩|⟨l',q',_⟩
  ·exact hE e lab' s' rfl I' k' F'
  ·rw [q'] at q;exact nomatch q
theorem zY(hc:c.comp=false)(x:Str)(xp p:Pos)(q:ey):eD c (exec (.Assign [.Name x xp] (.ListComp q.elt [⟨q.target,q.iter,q.ifs,0⟩] q.sc q.pos) p) c.env) (gk r ns x q) (aU c):=by
 intro S lab s res S' hf I Q E hQ hE;have O:=H.ok c hP;have PM:=hf;replace hf:Ev.bind (dW r ns q.elt q.target q.iter q.ifs q.sc) (fun l=>Ev.bind (cz ns x (.d (.lst l))) fun _=>.pure .next) S=some (res,S'):=hf
 cases hb:(c.env.blockKind== .function&&c.env.kindOf x==some .local&&xp.line==q.pos.line&& !(q.sc.names.any fun (n,k)=>n==x&& (k== .local||k== .cell))) with
 |false=>
  have MI:swapsWith (.ListComp q.elt [⟨q.target,q.iter,q.ifs,0⟩] q.sc q.pos) (some (.Name x xp)) p.line c.env=pure false:=by rw [←hb];rfl
  refine wpAny_Assign_Name ?_ MI;have e:(oD (fun _ _ _=>none) r ns (.ListComp q.elt [⟨q.target,q.iter,q.ifs,0⟩] q.sc q.pos))=Ev.bind (dW r ns q.elt q.target q.iter q.ifs q.sc) (fun l=>.pure (.d (.lst l))):=rfl;have M2:Ev.bind (oD (fun _ _ _=>none) r ns (.ListComp q.elt [⟨q.target,q.iter,q.ifs,0⟩] q.sc q.pos)) (fun v=>match v with| .d d=>Ev.bind (cz ns x (.d d)) fun _=>.pure .next| .ptr=>.fail) S=some (res,S'):=by
   rw [e];unfold Ev.bind at hf ⊢
   split at hf
   ·exact nomatch hf
   ·exact hf
   ·exact hf
  refine (rg H HG hP hN (fun _ _ _=>none) q.elt q.target q.iter q.ifs q.sc q.pos).step M2 I hE fun a v S1 lab1 s1 h1 I1 k1 m1 r1 dm=> ?_
  cases v with
  |ptr=>exact nomatch h1
  |d d=>
   rcases bind_some h1 with ⟨q,_⟩|⟨u,S2,q,q'⟩
   ·exact absurd q cJ
   refine bc fun no=> ?_;obtain ⟨rfl,rfl⟩:=eK q';refine no ?_;clear no;exact d6 O hN q I1 (l:=.d d) r1 fun s' _ I' k'=>hQ _ _ _ _ rfl I' (k1.trans k') m1.2 trivial
 |true=>
  have MI:swapsWith (.ListComp q.elt [⟨q.target,q.iter,q.ifs,0⟩] q.sc q.pos) (some (.Name x xp)) p.line c.env=pure true:=by rw [←hb];rfl
  have key: ∃o S1,dW r ns q.elt q.target q.iter q.ifs q.sc S=some (o,S1)∧((o= .bad∧res= .bad∧S1=S')∨∃l,o= .ok l∧res= .ok .next∧cz ns x (.d (.lst l)) S1=some (.ok (),S')):=by
   rcases bind_some hf with ⟨q,rfl⟩|⟨l,S2,q,q'⟩
   ·exact ⟨_,_,q,.inl ⟨rfl,rfl,rfl⟩⟩
   ·rcases bind_some q' with ⟨q1,_⟩|⟨u,S3,q1,q2⟩
    ·exact absurd q1 cJ
    refine bc fun no=> ?_;obtain ⟨rfl,rfl⟩:=eK q2;refine no ?_;clear no;exact ⟨_,_,q,.inr ⟨l,rfl,rfl,q1⟩⟩
  refine bc fun no=> ?_;obtain ⟨o,S1,ho,hr⟩:=key;refine no ?_;clear no;rw [exec_Assign_Name_used _ _ _ _ MI];refine wpAny_bind (wpAny_standAt (wpAny_bind ?_));show wpAny _ _ (do let _ ←comprehension (.ListComp q.elt [⟨q.target,q.iter,q.ifs,0⟩] q.sc q.pos) q.sc c.env _ (newList []) false (eval q.iter c.env) (some (assign (.Name x xp) c.env))) _ _ s;refine wpAny_bind (wpAny_mono (u9 H HG hP hN (use:=some (assign (.Name x xp) c.env)) (Q:=fun _ s'=>Q .next s') ho I (fun l C Dl lu sn cls es n e D9 Aw R1 h1 h2 h3 hm kd rv=> ?_) (fun e lab' s' q I' k' F'=> ?_)) (fun _ s' hq=>wpAny_pure (wpAny_pure hq)) fun _ _ e=>e)
  ·subst e
   rcases hr with ⟨q,_⟩|⟨l',q,rfl,xo⟩
   ·exact nomatch q
   cases q
   show wpAny _ _ (assign (.Name x xp) c.env (.ref Dl)) _ _ sn;refine wpAny_assign_Name (d6 (c:=withG c (aZ c.G C)) (O.withG _) (hN.withG _) xo R1 (l:=.d _) rv fun s2 _ I2 k2=> ?_);have hl:lu C=none:=R1.core.disj C (.inr rfl);have Gg:=(k2.at C _ _ _ hl h1 h2).1;refine ⟨_,Gg.ns h3,fun h' iN=> ?_⟩;obtain ⟨I',rp⟩:=I2.dropAt D9 iN (t:=s2.toks) Gg Aw (fun _ e=>nomatch e) (fun _ e=>nomatch e);exact hQ _ .next lu _ rfl I' (kd lu s2.heap k2 h' iN) hm.2 trivial
  ·rcases hr with ⟨q,rfl,rfl⟩|⟨l',q',_⟩
   ·exact hE e lab' s' rfl I' k' F'
   ·rw [q'] at q;exact nomatch q
end
theorem Cz{P:Fc→Prop}{r:ba}(H:aY P r)(HG:qj P):pF P r:=fun c ns hP hc hN x xp p q=>zY H HG hP hN hc x xp p q
noncomputable def eB:List (Addr×dj):=fr 36 (bB 2 0) [dS ""]::fr 850 (bg 62) []::fr 857 (bg 63) []::fr 916 (bg 72) []::lC
noncomputable def Er(o:Obj)(st:Stmt):Obj:=match o.data with
 | .func fd=>fo fd.name fd.qualname st fd.defaults fd.pyModule fd.code
 |_=>default
theorem Cn(P:Params):(eB.map fun p=>(KF P).lookup p.1)=eB.map fun p=>((KF P).lookup p.1).map fun o=>Er o p.2.st:=by
 unfold KF
 kernel_rfl
noncomputable def KQ:Stmt→Bool
 | .FunctionDef _ ps _ _ _ _ _ _ _ _=>ps.posonlyargs.isEmpty&&ps.kwonlyargs.isEmpty&&ps.vararg.isNone&&ps.kwarg.isNone
 |_=>false
noncomputable def fdOf(K:Frag)(a:Addr):FuncData:=match K.lookup a with
 |some o=>(match o.data with| .func fd=>fd|_=>default)
 |none=>default
noncomputable def yg(K:Frag)(a:Addr):Bool:=match K.lookup a with
 |some o=>(match o.data with| .func fd=>fd.closure.isEmpty|_=>false)
 |none=>false
noncomputable def fieldsOf:Data→Option (Array Value)
 | .fields vs=>some vs
 |_=>none
theorem rI{d:Data}{vs:Array Value}(h:fieldsOf d=some vs):d= .fields vs:=by cases d<;>first|exact cg h|exact congrArg _ (Option.some.inj h)
noncomputable def vc(K:Frag)(fd:FuncData):Bool:=((xh fd.code).bind fun c=>(K.lookup c).bind fun o=>(fieldsOf o.data).bind fun vs=>(vs[1]?).bind fun v=>(vS v).bind fun q=>if q==fd.qualname then some () else none).isSome
noncomputable def Ba(K:Frag)(fd:FuncData):List Value:=match fd.defaults with
 | .ref t=>(match K.lookup t with
  |some o=>(match o.data with
   | .seq vs _=>vs.toList
   |_=>[])
  |none=>[])
 |_=>[]
noncomputable def jF(sc:Scope)(ps:List Str):Bool:=sc.kind== .function&& !sc.isGenerator&& !sc.isCoroutine&& (sc.names.all fun x=>sc.names.lookup x.1==some x.2&& (x.2== .local||x.2== .cell||x.2== .globalImplicit))&&
 ip (sc.names.map (·.1))&&ip ps&&ps.all fun x=>sc.names.lookup x==some .local||sc.names.lookup x==some .cell
noncomputable def DF(K:Frag)(a:Addr)(F:dj):Bool:=yg K a&&KQ F.st&&vc K (fdOf K a)&&all2 (nJ K 5) (Ba K (fdOf K a)) F.defs&&jF (ai F.st) (bq F.st)
noncomputable def pj(fd:FuncData)(ns:ab):Bool:= !dZ ns|| ((xh fd.code).any (· ==920)&&fd.qualname== ("_law_keys_right":Str))
theorem zs(P:Params):(eB.all fun p=>pj (fdOf (KF P) p.1) (ai p.2.st).names)=true:=by
 unfold KF
 kernel_rfl
theorem BY{fd:FuncData}{ns:ab}(h:pj fd ns=true)(m:dZ ns=true):fd.code= .ref 920∧fd.qualname="_law_keys_right":=by
 unfold pj at h;rw [m] at h;refine bc fun no=> ?_;obtain ⟨h1,h2⟩:=Bool.and_eq_true_iff.mp h;obtain ⟨a,h3,h4⟩:=any_some h1;refine no ?_;clear no;exact ⟨(kT h3).trans (congrArg _ (beq_iff_eq.mp h4)),beq_iff_eq.mp h2⟩
theorem FE(P:Params):(eB.all fun p=>DF (KF P) p.1 p.2)=true:=by
 unfold KF
 kernel_rfl
noncomputable def gS(F:dj)(n:Nat):Bool:=decide (n≤(bq F.st).length)&&decide ((bq F.st).length≤n+F.defs.length)
noncomputable def mB(K:Frag)(F:dj)(fd:FuncData)(vs:List Value):List (Str×Value):=(bq F.st).zip (vs++ (Ba K fd).drop (vs.length+F.defs.length - (bq F.st).length))
noncomputable def bW(K:Frag)(S:Setting)(vs:List Value):Prop:=(eB.map fun p=>if gS p.2 vs.length then peek K S (bindArgs (fdOf K p.1) ⟨vs,[]⟩) else none)=eB.map fun p=>if gS p.2 vs.length then some (mB K p.2 (fdOf K p.1) vs) else none
theorem CR(P:Params)(S:Setting):bW (KF P) S []:=by
 unfold bW KF
 kernel_rfl
theorem CQ(P:Params)(S:Setting)(v0:Value):bW (KF P) S [v0]:=by
 unfold bW KF
 kernel_rfl
theorem CO(P:Params)(S:Setting)(v0:Value)(v1:Value):bW (KF P) S [v0,v1]:=by
 unfold bW KF
 kernel_rfl
theorem CN(P:Params)(S:Setting)(v0:Value)(v1:Value)(v2:Value):bW (KF P) S [v0,v1,v2]:=by
 unfold bW KF
 kernel_rfl
theorem CM(P:Params)(S:Setting)(v0:Value)(v1:Value)(v2:Value)(v3:Value):bW (KF P) S [v0,v1,v2,v3]:=by
 unfold bW KF
 kernel_rfl
theorem CL(P:Params)(S:Setting)(v0:Value)(v1:Value)(v2:Value)(v3:Value)(v4:Value):bW (KF P) S [v0,v1,v2,v3,v4]:=by
 unfold bW KF
 kernel_rfl
theorem CJ(P:Params)(S:Setting)(v0:Value)(v1:Value)(v2:Value)(v3:Value)(v4:Value)(v5:Value):bW (KF P) S [v0,v1,v2,v3,v4,v5]:=by
 unfold bW KF
 kernel_rfl
theorem CH(P:Params)(S:Setting)(v0:Value)(v1:Value)(v2:Value)(v3:Value)(v4:Value)(v5:Value)(v6:Value):bW (KF P) S [v0,v1,v2,v3,v4,v5,v6]:=by
 unfold bW KF
 kernel_rfl
theorem CG(P:Params)(S:Setting)(v0:Value)(v1:Value)(v2:Value)(v3:Value)(v4:Value)(v5:Value)(v6:Value)(v7:Value):bW (KF P) S [v0,v1,v2,v3,v4,v5,v6,v7]:=by
 unfold bW KF
 kernel_rfl
theorem BU:(eB.all fun p=>decide ((bq p.2.st).length≤8))=true:=by kernel_rfl
theorem wK(P:Params)(S:Setting)(vs:List Value)(h:vs.length≤8):bW (KF P) S vs:=by
 match vs,h with
 |[],_=>exact CR P S
 |[v0],_=>exact CQ P S v0
 |[v0,v1],_=>exact CO P S v0 v1
 |[v0,v1,v2],_=>exact CN P S v0 v1 v2
 |[v0,v1,v2,v3],_=>exact CM P S v0 v1 v2 v3
 |[v0,v1,v2,v3,v4],_=>exact CL P S v0 v1 v2 v3 v4
 |[v0,v1,v2,v3,v4,v5],_=>exact CJ P S v0 v1 v2 v3 v4 v5
 |[v0,v1,v2,v3,v4,v5,v6],_=>exact CH P S v0 v1 v2 v3 v4 v5 v6
 |[v0,v1,v2,v3,v4,v5,v6,v7],_=>exact CG P S v0 v1 v2 v3 v4 v5 v6 v7
 |_::_::_::_::_::_::_::_::_::_,h=>exact absurd h (by simp)
structure OQ(K:Frag)(a:Addr)(F:dj)(fd:FuncData):Prop where
 look: ∃o,K.lookup a=some o∧o.data= .func fd
 body:fd.body= .stmts (ak F.st)
 scope:fd.scope=ai F.st
 closure:fd.closure= []
 globals:fd.globals=mainGlobals
 builtins:fd.builtins=builtinsNs
 code:vc K fd=true
 names:jF (ai F.st) (bq F.st)=true
 dflts:all2 (nJ K 5) (Ba K fd) F.defs=true
 binds: ∀vs S,gS F vs.length=true→peek K S (bindArgs fd ⟨vs,[]⟩)=some (mB K F fd vs)
 mark:dZ (ai F.st).names=true→fd.code= .ref 920∧fd.qualname="_law_keys_right"
theorem Lf(P:Params){a:Addr}{F:dj}(h:(a,F)∈eB):OQ (KF P) a F (fdOf (KF P) a):=by
 have h1:=List.all_eq_true.mp (FE P) (a,F) h;have PE:dZ (ai F.st).names=true→(fdOf (KF P) a).code= .ref 920∧(fdOf (KF P) a).qualname="_law_keys_right":=BY (List.all_eq_true.mp (zs P) (a,F) h);unfold DF at h1;simp only [Bool.and_eq_true] at h1;refine bc fun no=> ?_;obtain ⟨⟨⟨⟨q1,q2⟩,q3⟩,q4⟩,q5⟩:=h1;refine no ?_;clear no;have h2:=List.map_inj_left.mp (Cn P) (a,F) h;have h3: ∀vs S,gS F vs.length=true→peek (KF P) S (bindArgs (fdOf (KF P) a) ⟨vs,[]⟩)=some (mB (KF P) F (fdOf (KF P) a) vs):=fun vs S e=>by
  have hl:vs.length≤8:=by
   have:=List.all_eq_true.mp BU (a,F) h;unfold gS at e;exact Nat.le_trans (of_decide_eq_true (Bool.and_eq_true_iff.mp e).1) (of_decide_eq_true this)
  have:=List.map_inj_left.mp (wK P S vs hl) (a,F) h;dsimp only at this
  rwa [if_pos e,if_pos e] at this
 dsimp only at h2;unfold yg at q1
 cases hk:(KF P).lookup a with
 |none=>rw [hk] at q1;exact nomatch q1
 |some o=>
  rw [hk] at q1 h2;dsimp only at q1
  cases hd:o.data<;>rw [hd] at q1<;> (try exact D4 q1)
  rename_i fd
  have RP:fdOf (KF P) a=fd:=by unfold fdOf;rw [hk];dsimp only;rw [hd]
  rw [RP] at q3 q4 h3 PE ⊢;have h4:o=Er o F.st:=Option.some.inj h2;unfold Er at h4;rw [hd] at h4;dsimp only at h4;have TF:=q2
  cases em:F.st<;>rw [em] at q2<;> (try exact D4 q2)
  rw [em] at h4;have h5:o.data=_:=congrArg Obj.data h4;rw [hd] at h5;unfold fo at h5;dsimp only at h5;have h6:=Data.func.inj h5;refine ⟨⟨o,hk,hd⟩, ?_, ?_,by simpa using q1, ?_, ?_,q3,q5,q4,h3,PE⟩
  ·rw [h6];unfold ak;rw [em]
  ·rw [h6];unfold ai;rw [em]
  ·rw [h6];rfl
  ·rw [h6];rfl
noncomputable def eV:Nat→List (Str×NameKind)→ag→ag
 |_,[],lab=>lab
 |n,(x,k)::r,lab=>if k== .cell then eV (n+1) r (cy n (.cell x) lab) else eV n r lab
structure vi(x:Cx)(G:Addr→Prop)(outer:List Env)(names:List (Str×NameKind))(s:Shared)(lab:ag)(cU:List (Str×Addr))(s':Shared)(lab':ag)(cs:List (Str×Addr)):Prop where
 core:ch x G lab' outer s'
 at': ∀y a,cs.lookup y=some a→lab' a=some (.cell y)∧At s'.heap a (.type "cell") none (.cell none)
 has: ∀y,(y,NameKind.cell)∈names∨(∃a,cU.lookup y=some a)→∃a,cs.lookup y=some a
 old: ∀a L,lab a=some L→lab' a=some L
 new: ∀a,lab' a≠none→lab a≠none∨s.heap.objs.size≤a
 keep: ∀b o,s.heap.get? b=some o→s'.heap.get? b=some o
theorem z5{x:Cx}{G:Addr→Prop}{outer:List Env}: ∀(names:List (Str×NameKind)) (s:Shared) (lab:ag) (cU:List (Str×Addr)),(names.map (·.1)).Nodup→(∀y∈names,∀a,lab a≠some (.cell y.1))→ch x G lab outer s→x.base.objs.size≤s.heap.objs.size→
  (∀y a,cU.lookup y=some a→lab a=some (.cell y)∧At s.heap a (.type "cell") none (.cell none))→
  vi x G outer names s lab cU {s with heap:=pushCells s.heap names} (eV s.heap.objs.size names lab) (cellsFrom s.heap.objs.size names cU):=by
 intro names
 induction names with
 |nil=>
  intro s lab cU _ _ C _ ha;exact ⟨C,ha,fun y h=>h.elim (fun e=>nomatch e) id,fun _ _ e=>e,fun _ e=>.inl e,fun _ _ e=>e⟩
 |cons p r ih=>
  intro s lab cU hd hn C hb ha;obtain ⟨y,k⟩:=p;obtain ⟨Ec,rX⟩:=List.nodup_cons.mp (show (y::r.map (·.1)).Nodup from hd);have L1: ∀z∈r,∀a,lab a≠some (.cell z.1):=fun z m=>hn z (List.mem_cons_of_mem _ m)
  cases hk:(k==NameKind.cell) with
  |false=>
   have e1:pushCells s.heap ((y,k)::r)=pushCells s.heap r:=by show (if (k==NameKind.cell)=true then _ else _)=_;rw [hk];rfl
   have e2:eV s.heap.objs.size ((y,k)::r) lab=eV s.heap.objs.size r lab:=by show (if (k==NameKind.cell)=true then _ else _)=_;rw [hk];rfl
   have e3:cellsFrom s.heap.objs.size ((y,k)::r) cU=cellsFrom s.heap.objs.size r cU:=by show (if (k==NameKind.cell)=true then _ else _)=_;rw [hk];rfl
   rw [e1,e2,e3];obtain ⟨q1,q2,q3,q4,q5,q6⟩:=ih s lab cU rX L1 C hb ha;refine ⟨q1,q2,fun z h=>q3 z (h.imp (fun m=> ?_) id),q4,q5,q6⟩;rcases List.mem_cons.mp m with m|m
   ·cases m;exact nomatch hk
   ·exact m
  |true=>
   obtain rfl:=beq_iff_eq.mp hk;show vi x G outer ((y,.cell)::r) s lab cU {s with heap:=pushCells (s.heap.push {cls:=.type "cell",data:=.cell none}) r} (eV (s.heap.objs.size+1) r (cy s.heap.objs.size (.cell y) lab)) (cellsFrom (s.heap.objs.size+1) r ((y,s.heap.objs.size)::cU));have DA:lab s.heap.objs.size=none:=by
    cases q:lab s.heap.objs.size with
    |none=>rfl
    |some L'=>exact absurd (.inr (by rw [q];exact fun e=>nomatch e)) (C.new (Nat.le_refl _))
   have C1:=C.newLab (L:=.cell y) (o:={cls:=.type "cell",data:=.cell none}) (hn (y,.cell) List.mem_cons_self) (by simp) rfl rfl hb;have gP:(s.heap.push {cls:=.type "cell",data:=.cell none}).objs.size=s.heap.objs.size+1:=Heap.size_push ..;have kp: ∀b o,s.heap.get? b=some o→(s.heap.push {cls:=.type "cell",data:=.cell none}).get? b=some o:=fun b o e=>Heap.get?_push_of_some _ e;have:=ih {s with heap:=s.heap.push {cls:=.type "cell",data:=.cell none}} (cy s.heap.objs.size (.cell y) lab) ((y,s.heap.objs.size)::cU) rX (fun z m a e=>by
    unfold cy at e
    split at e
    ·injection e with e;injection e with e
     exact Ec (e▸List.mem_map_of_mem m)
    ·exact L1 z m a e) C1 (by show _≤(s.heap.push _).objs.size;rw [gP];exact Nat.le_succ_of_le hb) (fun z a e=>by
    rw [List.lookup_cons] at e
    by_cases q:(z==y)=true
    ·rw [q] at e
     cases e
     obtain rfl:=beq_iff_eq.mp q;exact ⟨if_pos rfl,.of (Heap.get?_push_size _ rfl)⟩
    ·rw [Bool.not_eq_true] at q
     rw [q] at e;obtain ⟨e1,e2⟩:=ha z a e;exact ⟨bA e1 DA,e2.keep kp⟩)
   rw [show ({s with heap:=s.heap.push {cls:=.type "cell",data:=.cell none}}:Shared).heap.objs.size=s.heap.objs.size+1 from gP] at this;obtain ⟨q1,q2,q3,q4,q5,q6⟩:=this;refine ⟨q1,q2,fun z h=>q3 z ?_,fun a L e=>q4 a L (bA e DA),fun a e=> ?_,fun b o e=>q6 b o (kp b o e)⟩
   ·rcases h with m|⟨a,e⟩
    ·rcases List.mem_cons.mp m with m|m
     ·cases m
      exact .inr ⟨_,by rw [List.lookup_cons,beq_self_eq_true]⟩
     ·exact .inl m
    ·refine .inr ?_
     rw [List.lookup_cons]
     by_cases q:(z==y)=true
     ·rw [q];exact ⟨_,rfl⟩
     ·rw [Bool.not_eq_true] at q;rw [q];exact ⟨a,e⟩
   ·rcases q5 a e with z|z
    ·unfold cy at z
     split at z
     ·rename_i q;exact .inr (Nat.le_of_eq q.symm)
     ·exact .inl z
    ·have z':(s.heap.push {cls:=.type "cell",data:=.cell none}).objs.size≤a:=z
     rw [gP] at z';exact .inr (Nat.le_of_succ_le z')
inductive gy(h:Heap)(G:Addr→Prop)(lab:ag):List Str→List Value→List Loc→Prop where
 |nil:gy h G lab [] [] []
 |cons (x v l xs vs ls):bp h G lab x v l→gy h G lab xs vs ls→gy h G lab (x::xs) (v::vs) (l::ls)
noncomputable def sM:Loc→Bool
 | .own _=>false
 |_=>true
theorem pN{h h':Heap}{G:Addr→Prop}{lab:ag}(k:Kept lab h lab h'){xs:List Str}{vs:List Value}{ls:List Loc}(r:gy h G lab xs vs ls):ls.all sM=true→gy h' G lab xs vs ls:=by
 induction r with
 |nil=>exact fun _=>.nil
 |cons x v l xs vs ls r q ih=>
  intro hp;rw [List.all_cons,Bool.and_eq_true] at hp;refine .cons x v l xs vs ls ?_ (ih hp.2)
  cases l with
  |d d=>exact k.rep r
  |own l=>cases hp.1
  |ptr=>exact r
theorem Mj{β:Type}{x:Str}{xs:List Str}{ls:List β}:x∉xs→(xs.zip ls).lookup x=none:=by
 induction xs generalizing ls with
 |nil=>exact fun _=>rfl
 |cons y xs ih=>
  cases ls with
  |nil=>exact fun _=>rfl
  |cons l ls=>
   intro h;rw [List.zip_cons_cons,List.lookup_cons,beq_eq_false_iff_ne.mpr (show x≠y from fun e=>h (e▸List.mem_cons_self))];exact ih fun m=>h (List.mem_cons_of_mem _ m)
section
variable{c:Fc}{lab:ag}
theorem v9(O:dq c){A:Around}{E:Value→Shared→Prop}{f:Str×Value→PUnit→Sem (ForInStep PUnit)}(hf: ∀n v u,f (n,v) u= (do storeName c.env n v;pure (.yield ⟨⟩))){Q:PUnit→Shared→Prop}{σ:Option Slot}:
  ∀(xs:List Str) (vs:List Value) (ls:List Loc) (ρ:List (Str×Loc)) (s:Shared),xs.Nodup→ls.all sM=true→gy s.heap c.G lab xs vs ls→(∀x∈xs,c.env.kindOf x=some .local∨(c.comp=false∧c.env.kindOf x=some .cell))→Inv c lab ⟨ρ,σ⟩ s→
   (∀s' ρ',(∀y l,(xs.zip ls).lookup y=some l→ρ'.lookup y=some l)→(∀y,y∉xs→ρ'.lookup y=ρ.lookup y)→Inv c lab ⟨ρ',σ⟩ s'→Kept lab s.heap lab s'.heap→Q ⟨⟩ s')→wpAny (model pw c.x.w) A (forIn (xs.zip vs) ⟨⟩ f) Q E s:=by
 intro xs
 induction xs with
 |nil=>
  intro vs ls ρ s _ _ r _ I hQ
  cases r
  rw [List.zip_nil_left,List.forIn_nil];exact wpAny_pure (hQ s ρ (fun _ _ e=>nomatch e) (fun _ _=>rfl) I (Kept.refl _ _))
 |cons x xs ih=>
  intro vs ls ρ s hd hp r hk I hQ
  cases r with
  |cons _ v l _ vs ls r1 r2=>
  obtain ⟨Ec,rX⟩:=List.nodup_cons.mp hd;rw [List.all_cons,Bool.and_eq_true] at hp;rw [List.zip_cons_cons,List.forIn_cons,hf];refine wpAny_bind (wpAny_bind (dY O I (hk x List.mem_cons_self) r1 fun s1 I1 k1=>wpAny_pure ?_));refine ih vs ls _ s1 rX hp.2 (pN k1 r2 hp.2) (fun y m=>hk y (List.mem_cons_of_mem _ m)) I1 fun s' ρ' h1 h2 I' k'=>hQ s' ρ' (fun y m e=> ?_) (fun y m=> ?_) I' (k1.trans k')
  ·rw [List.zip_cons_cons,List.lookup_cons] at e
   by_cases q:(y==x)=true
   ·rw [q] at e
    cases e
    obtain rfl:=beq_iff_eq.mp q;rw [h2 y Ec,aN,if_pos (beq_self_eq_true _)]
   ·rw [Bool.not_eq_true] at q
    rw [q] at e;exact h1 y m e
  ·rw [h2 y (fun z=>m (List.mem_cons_of_mem _ z)),aN,if_neg]
   intro q;obtain rfl:=beq_iff_eq.mp q;exact m List.mem_cons_self
end
theorem wc{M:Model}{A:Around}{E:Value→Shared→Prop}{s:Shared}{scope:Scope}{globals:Addr}{binds:List (Str×Value)}{qual:Str}{func:Option Addr}{code:Value}{builtins:Addr}{Q:Env→Shared→Prop}
  (hQ: ∀f:Str×Value→PUnit→Sem (ForInStep PUnit),(∀n v u,f (n,v) u= (do storeName (newEnv scope s.heap.objs.size globals (cellsFrom (s.heap.objs.size+1) scope.names []) qual func code none builtins) n v;pure (.yield ⟨⟩)))→
   wpAny M A (forIn binds ⟨⟩ f) (fun _ s'=>Q (newEnv scope s.heap.objs.size globals (cellsFrom (s.heap.objs.size+1) scope.names []) qual func code none builtins) s') E {s with heap:=pushCells (s.heap.push {cls:=.type "frame",data:=.dict #[]}) scope.names}):
  wpAny M A (newFunctionEnv scope globals [] binds qual func code none builtins) Q E s:=by
 simp only [newFunctionEnv,Option.isSome_none,Bool.false_eq_true,if_false];refine wpAny_bind (wpAny_alloc ?_);refine wpAny_bind (wpAny_layCells _ (fun name kind cells=>by cases RG:kind==NameKind.cell<;>simp [RG]) _ _ _ _ ?_);rw [show ({s with heap:=s.heap.push {cls:=.type "frame",data:=.dict #[]}}:Shared).heap.objs.size=s.heap.objs.size+1 from Heap.size_push ..];exact wpAny_bind (wpAny_mono (hQ _ (fun _ _ _=>rfl)) (fun _ s' h=>wpAny_pure h) fun _ _ e=>e)
set_option backward.match.sparseCases true
noncomputable def OC(h:Heap)(G:Addr→Prop)(lab:ag)(v:Value):Loc→Prop
 | .d d=>aD h (Rs G lab) v d
 | .ptr=>uD lab v
 | .own _=>False
inductive di(h:Heap)(G:Addr→Prop)(lab:ag):List Value→List Loc→Prop where
 |nil:di h G lab [] []
 |cons (v l vs ls):OC h G lab v l→di h G lab vs ls→di h G lab (v::vs) (l::ls)
theorem di.append{h:Heap}{G:Addr→Prop}{lab:ag}{vs:List Value}{ls:List Loc}{AE:List Value}{Pj:List Loc}(r:di h G lab vs ls)(q:di h G lab AE Pj):di h G lab (vs++AE) (ls++Pj):=by
 induction r with
 |nil=>exact q
 |cons v l _ _ a _ ih=>exact .cons v l _ _ a ih
theorem di.length{h:Heap}{G:Addr→Prop}{lab:ag}{vs:List Value}{ls:List Loc}(r:di h G lab vs ls):vs.length=ls.length:=by
 induction r with
 |nil=>rfl
 |cons _ _ _ _ _ _ ih=>exact congrArg (· +1) ih
theorem di.plain{h:Heap}{G:Addr→Prop}{lab:ag}{vs:List Value}{ls:List Loc}(r:di h G lab vs ls):ls.all sM=true:=by
 induction r with
 |nil=>rfl
 |cons _ l _ _ r _ ih=>
  rw [List.all_cons,ih,Bool.and_true]
  cases l with
  |own l=>exact r.elim
  |_=>rfl
theorem di.bind{h:Heap}{G:Addr→Prop}{lab:ag}{vs:List Value}{ls:List Loc}(r:di h G lab vs ls): ∀{xs:List Str},xs.length=vs.length→gy h G lab xs vs ls:=by
 induction r with
 |nil=>
  intro xs e
  cases xs with
  |nil=>exact .nil
  |cons=>exact nomatch e
 |cons v l vs ls r q ih=>
  intro xs e
  cases xs with
  |nil=>exact nomatch e
  |cons x xs=>
   refine .cons x v l xs vs ls ?_ (ih (Nat.succ.inj e))
   cases l with
   |d d=>exact r
   |own l=>exact r.elim
   |ptr=>exact r
theorem di.ofV{c:Fc}{h h':Heap}{lab lab':ag}(kr: ∀a c' d x,¬Rs c.G lab a→At h a c' d x→c'≠ .none→At h' a c' d x∧¬Rs c.G lab' a)(m:bN lab lab'){vs:List Value}{as:List V}(r:cD c h lab vs as):di h' c.G lab' vs (as.map kC):=by
 induction r with
 |nil=>exact .nil
 |cons a v r q r1 r2 ih=>
  refine .cons a (kC v) r (q.map kC) ?_ ih
  cases v with
  |d d=>exact aD.mono kr r1
  |ptr=>obtain ⟨b,e,hb⟩:=r1;exact ⟨b,e,m b hb⟩
theorem di.ofR{h:Heap}{G:Addr→Prop}{lab:ag}{vs:List Value}{ds:List D}(r:an h (Rs G lab) vs ds):di h G lab vs (ds.map .d):=
 an.ind (P:=fun vs ds=>di h G lab vs (ds.map .d)) .nil (fun v d _ _ a _ b=>.cons v (.d d) _ _ a b) r
theorem wa{a p d:Nat}(h1:a≤p)(h2:p≤a+d):p=a+ (d - (a+d - p)):=by
 obtain ⟨q,rfl⟩:=Nat.exists_eq_add_of_le h1;rw [Nat.add_sub_add_left,Nat.sub_sub_self (Nat.le_of_add_le_add_left h2)]
structure Ow(sc:Scope)(ps:List Str):Prop where
 kind:sc.kind= .function
 gen:sc.isGenerator=false
 cor:sc.isCoroutine=false
 nodup:(sc.names.map (·.1)).Nodup
 pars:ps.Nodup
 look: ∀q∈sc.names,sc.names.lookup q.1=some q.2∧(q.2= .local∨q.2= .cell∨q.2= .globalImplicit)
 par: ∀x∈ps,sc.names.lookup x=some .local∨sc.names.lookup x=some .cell
theorem zg{sc:Scope}{ps:List Str}(h:jF sc ps=true):Ow sc ps:=by
 unfold jF at h;simp only [Bool.and_eq_true,Bool.not_eq_true',beq_iff_eq,List.all_eq_true,Bool.or_eq_true] at h;obtain ⟨⟨⟨⟨⟨⟨h1,h2⟩,h3⟩,h4⟩,h5⟩,h6⟩,h7⟩:=h;refine ⟨h1,h2,h3,fc h5,fc h6,fun q m=> ?_,h7⟩;obtain ⟨a,b⟩:=h4 q m;exact ⟨a,b.elim (fun z=>z.elim .inl fun z=>.inr (.inl z)) fun z=>.inr (.inr z)⟩
noncomputable def ff(c:Fc)(fd:FuncData)(L a:Addr):Fc:={x:=c.x,A:=c.A.deeper (callEnvC fd L a),G:=c.G,env:=callEnvC fd L a,outer:=callEnvC fd L a::c.outer,comp:=false}
noncomputable def ej(F:dj)(as:List V):List (Str×Loc):=(bq F.st).zip (as.map kC++ (F.defs.drop (as.length+F.defs.length - (bq F.st).length)).map .d)
theorem Ao{p:Value→D→Bool}(vs:List Value): ∀{ds:List D},all2 p vs ds=true→vs.length=ds.length:=by
 induction vs with
 |nil=>exact fun {ds} e=>(congrArg List.length (List.isEmpty_iff.mp (show ds.isEmpty=true from e))).symm
 |cons v vs ih=>intro ds e;cases ds with
  |nil=>exact nomatch e
  |cons d ds=>exact congrArg (· +1) (ih (Bool.and_eq_true_iff.mp e).2)
theorem cD.length{c:Fc}{h:Heap}{lab:ag}{vs:List Value}{as:List V}(r:cD c h lab vs as):vs.length=as.length:=by
 induction r with
 |nil=>rfl
 |cons _ _ _ _ _ _ ih=>exact congrArg (· +1) ih
theorem fP{c:Fc}{lab:ag}{s:Shared}{a:Addr}{F:dj}{vs:List Value}{as:List V}{σ:Option Slot}(hF:(a,F)∈eB)(X:xb c.x)(Ee:c.A.handled=none)(Dg:c.A.frames=some c.outer)(Ef:c.A.guards=some [])(Ha:c.A.depth≤598)(Pw:c.A.units≤4900)(OS:fV lab)(C:ch c.x c.G lab c.outer s)(sl:bf c.x.w s.heap c.G lab σ)(hb:c.x.base.objs.size≤s.heap.objs.size)
  (rv:cD c s.heap lab vs as) (vn:gS F as.length=true) {R:Result→Shared→Prop}
  (h: ∀(fd:FuncData) (L:Addr) lab1 s1,s.heap.objs.size≤L→dq (ff c fd L a)→aT (ff c fd L a) (ai F.st).names→Inv (ff c fd L a) lab1 ⟨ej F as,σ⟩ s1→Kept lab s.heap lab1 s1.heap→bN lab lab1→
   wpAny (model pw c.x.w) (ff c fd L a).A (execs (ak F.st) (ff c fd L a).env) (fun f s'=>R (.ok (.ret (match f with| .ret v=>v|_=>.none))) s') (fun e s'=>wpAny (model pw c.x.w) (ff c fd L a).A («leaving» (ff c fd L a).env e) (fun _ s''=>R (.error e) s'') (fun e' s''=>R (.error e') s'') s') s1):
  codeAny (model pw c.x.w) c.A (.call (.ref a) ⟨vs,[]⟩) R s:=by
 obtain ⟨⟨o,ho,hd⟩,gW,kb,us,hglob,hbuilt,xG,Fu,G9,Fx,hmark⟩:=Lf c.x.w.params hF;generalize fdOf (KF c.x.w.params) a=fd at*;have Sc:=zg Fu;have X':(KF c.x.w.params).In s.heap:=hH X.K C.old;have PV: ∀b o,(KF c.x.w.params).lookup b=some o→¬Rs c.G lab b:=fun b o e=>C.low (sP X.K e);have aP:=rv.length;have AN:s.heap.CodeRec fd.code fd.qualname:=by
  obtain ⟨_,hc⟩:=Option.isSome_iff_exists.mp xG;exact ae hc fun SV h1 hc=>ae hc fun oc h2 hc=>ae hc fun SN h3 hc=>ae hc fun v h4 hc=>ae hc fun q h5 hc=>aH hc fun h6 _=>let ⟨tq,e⟩:=Dk h5;⟨SV,oc,SN,tq,kT h1,X' _ _ h2,rI h3,by rw [h4,e,beq_iff_eq.mp h6]⟩
 refine codeAny_call_function (by unfold recursionLimit;lia) (X' a o ho) hd (by rw [kb];exact Sc.cor) (by rw [kb];exact Sc.gen) gW AN (kp_binds X' (fun S=>Fx vs S (by rw [aP];exact vn)) _ _ _ _ ?_);rw [us];refine wc fun f hf=> ?_;have DC:lab s.heap.objs.size=none:=by
  cases q:lab s.heap.objs.size with
  |none=>rfl
  |some L'=>exact absurd (.inr (by rw [q];exact fun e=>nomatch e)) (C.new (Nat.le_refl _))
 have C1:=C.newLab (L:=.frame) (o:={cls:=.type "frame",data:=.dict #[]}) (fun b e=>by have:=OS _ _ e;exact nomatch this) (by simp) rfl rfl hb;have gP:(s.heap.push {cls:=.type "frame",data:=.dict #[]}).objs.size=s.heap.objs.size+1:=Heap.size_push ..;have CI:=z5 fd.scope.names {s with heap:=s.heap.push {cls:=.type "frame",data:=.dict #[]}} (cy s.heap.objs.size .frame lab) [] (by rw [kb];exact Sc.nodup) (fun y m b e=>by
   unfold cy at e
   split at e
   ·exact nomatch e
   ·have:=OS _ _ e;exact nomatch this) C1 (by show _≤(s.heap.push _).objs.size;rw [gP];exact Nat.le_succ_of_le hb) (fun _ _ e=>nomatch e)
 rw [show ({s with heap:=s.heap.push {cls:=.type "frame",data:=.dict #[]}}:Shared).heap.objs.size=s.heap.objs.size+1 from gP] at CI;generalize Qm:eV (s.heap.objs.size+1) fd.scope.names (cy s.heap.objs.size .frame lab)=lab1 at CI;have kp: ∀b o,s.heap.get? b=some o→(pushCells (s.heap.push {cls:=.type "frame",data:=.dict #[]}) fd.scope.names).get? b=some o:=fun b o e=>CI.keep b o (Heap.get?_push_of_some _ e);have Hg:lab1 s.heap.objs.size=some .frame:=CI.old _ _ (if_pos rfl);have su:At (pushCells (s.heap.push {cls:=.type "frame",data:=.dict #[]}) fd.scope.names) s.heap.objs.size (.type "frame") none (.dict #[] 0):=At.keep (h:=s.heap.push {cls:=.type "frame",data:=.dict #[]}) ⟨#[],Heap.get?_push_size _ rfl,fun _=>rfl⟩ CI.keep;have Eu: ∀b,b<s.heap.objs.size→lab b=none→lab1 b=none:=fun b hb e=>by
  cases q:lab1 b with
  |none=>rfl
  |some l'=>
   rcases CI.new b (by rw [q];exact fun e=>nomatch e) with z|z
   ·unfold cy at z
    rw [if_neg (Nat.ne_of_lt hb)] at z;exact absurd e z
   ·have z:s.heap.objs.size+1≤b:=gP▸z
    exact absurd hb (Nat.not_lt.mpr (Nat.le_of_succ_le z))
 have sm:bN lab lab1:=fun b e=>CI.old _ _ (bA e DC);have kept:Kept lab s.heap lab1 (pushCells (s.heap.push {cls:=.type "frame",data:=.dict #[]}) fd.scope.names):=fun b o e q z=>⟨⟨o.slots,kp b o q,fun _=>rfl⟩,Eu b (Heap.lt_size q) e⟩;have kr: ∀b c' d x,¬Rs c.G lab b→At s.heap b c' d x→c'≠ .none→At (pushCells (s.heap.push {cls:=.type "frame",data:=.dict #[]}) fd.scope.names) b c' d x∧¬Rs c.G lab1 b:=fun b c' d x nn q _=>⟨q.keep kp,fun z=>by
  rcases z with z|z
  ·exact nn (.inl z)
  ·refine z (Eu b q.lt ?_)
   cases q2:lab b with
   |none=>rfl
   |some l=>exact absurd (.inr (by rw [q2];exact fun e=>nomatch e)) nn⟩
 have O:dq (ff c fd s.heap.objs.size a):=by
  refine ⟨X.K,X.lim,X.bi, ?_,hglob,hbuilt,Ee, ?_,Ef,fun _=>⟨c.outer,rfl⟩,⟨_,rfl,_,_,rfl,rfl⟩, ?_, ?_,fun x e=> ?_,X.mn⟩
  ·show fd.scope.kind= .function
   rw [kb];exact Sc.kind
  ·show c.A.frames.map (callEnvC fd s.heap.objs.size a:: ·)=_
   rw [Dg];rfl
  ·show c.A.depth+1≤600
   lia
  ·show c.A.units+3≤5000
   lia
  ·exact CI.has x (.inl (Mine.dE e))
 have N:aT (ff c fd s.heap.objs.size a) (ai F.st).names:=by
  have e:(ff c fd s.heap.objs.size a).env.kindOf=fun x=>(ai F.st).names.lookup x:=by rw [←kb];rfl
  refine ⟨fun x q=>by rw [e];exact q,fun x q=>⟨rfl,by rw [e];exact q⟩,fun x q=>by rw [e];exact q,fun x q=> ?_,fun _ mk=> ?_⟩
  ·have:=(Sc.look _ (Mine.dE q)).2
   rcases this with z|z|z<;>cases z
  ·obtain ⟨m1,m2⟩:=hmark mk
   exact ⟨m1,by show fd.qualname++".<locals>."=_;rw [m2];rfl⟩
 have I0:Inv (ff c fd s.heap.objs.size a) lab1 ⟨[],σ⟩ {s with heap:=pushCells (s.heap.push {cls:=.type "frame",data:=.dict #[]}) fd.scope.names}:=by
  refine ⟨⟨CI.core.old,CI.core.os,CI.core.gens,CI.core.res,fun env he=> ?_,CI.core.inj,CI.core.disj,CI.core.tab⟩,Hg,⟨.type "frame",#[],0,su,(fun e=>nomatch e),(fun e he=>by simp at he),(fun _ _ e=>nomatch e)⟩,(fun _ _ e=>nomatch e),fun _ x e=> ?_, ?_⟩
  ·rcases List.mem_cons.mp he with rfl|he
   ·refine ⟨?_,_,_,_,rfl,.inr Hg,su,fun vs e=>nomatch e⟩
    show fd.scope.kind≠ .module;rw [kb,Sc.kind];exact fun e=>nomatch e
   ·exact CI.core.fr env he
  ·obtain ⟨b,rS⟩:=CI.has x (.inl (Mine.dE e))
   obtain ⟨g1,g2⟩:=CI.at' x b rS;exact ⟨b,none,rS,g1,g2⟩
  ·refine ee kr (fun L hL b e=>⟨CI.old _ _ (bA e DC),fun _ _ _ q _=>q.keep kp⟩) sl
 have P1:di (pushCells (s.heap.push {cls:=.type "frame",data:=.dict #[]}) fd.scope.names) c.G lab1 vs (as.map kC):=di.ofV kr sm rv;have GE:=Ao _ G9;have X1:(KF c.x.w.params).In (pushCells (s.heap.push {cls:=.type "frame",data:=.dict #[]}) fd.scope.names):=fun b o e=>kp b o (X' b o e);have P3: ∀k,di (pushCells (s.heap.push {cls:=.type "frame",data:=.dict #[]}) fd.scope.names) c.G lab1 ((Ba (KF c.x.w.params) fd).drop k) ((F.defs.drop k).map .d):=fun k=>di.ofR ((mY (fun _ _=>iy X1 (fun b o e z=>by
  rcases z with z|z
  ·exact PV b o e (.inl z)
  ·have Sg:=Heap.lt_size (X' b o e)
   refine z (Eu b Sg ?_)
   cases q2:lab b with
   |none=>rfl
   |some l=>exact absurd (.inr (by rw [q2];exact fun e=>nomatch e)) (PV b o e))) _ _ G9).drop k)
 have A6:=vn;unfold gS at A6;obtain ⟨Mc,GG⟩:=Bool.and_eq_true_iff.mp A6;replace Mc:=of_decide_eq_true Mc;replace GG:=of_decide_eq_true GG;have PP:=P1.append (P3 (vs.length+F.defs.length - (bq F.st).length));refine v9 O hf (σ:=σ) (bq F.st) _ _ [] _ Sc.pars PP.plain (PP.bind ?_) (fun x m=> ?_) I0 fun s2 ρ2 hρ _ I2 k2=> ?_
 ·rw [List.length_append,List.length_drop,GE,aP]
  exact wa Mc GG
 ·rcases Sc.par x m with z|z
  ·exact .inl (N.loc x z)
  ·exact .inr (N.cell x z)
 ·have I3:=I2.rho (ρ:=ej F as) (fun y l e=>hρ y l (by unfold ej at e;rw [aP];exact e))
  exact ⟨uV I3.core.old X.lim,codeAny_func (h fd s.heap.objs.size lab1 s2 (Nat.le_refl _) O N I3 (kept.trans k2) sm)⟩
theorem oa{h₀ h h':Heap}(K:OldK h₀ h)(hk: ∀b o o0,h₀.get? b=some o0→h.get? b=some o→h'.get? b=some o):OldK h₀ h':=
 ⟨fun b o e=>by
  rcases K.old b o e with x|⟨t,hc,vs,so,hv,x⟩|⟨rfl,hc,⟨o',es,n,pO,r⟩,z⟩
  ·exact .inl (hk _ _ _ e x)
  ·exact .inr (.inl ⟨t,hc,vs,so,hv,hk _ _ _ e x⟩)
  ·exact .inr (.inr ⟨rfl,hc,⟨o',es,n,hk _ _ _ e pO,r⟩,fun key=>by rw [OldK.staticOf_congr ((hk _ _ _ e pO).trans pO.symm) key];exact z key⟩),
  fun b o e=>let ⟨o',pO⟩:=K.there b o e;⟨o',hk _ _ _ e pO⟩⟩
section
variable{c:Fc}{fd:FuncData}{L a:Addr}{lab lab':ag}{s s':Shared}{S':St}(C:ch c.x c.G lab c.outer s)(OS:fV lab)(I:Inv (ff c fd L a) lab' S' s')(k:Kept lab s.heap lab' s'.heap)
include C OS I k
theorem sR(m:bN lab lab'):aA c lab s S'.σ (aW (aQ S'.σ) lab') s'∧∀{v d},aD s'.heap (Rs c.G lab') v d→ei c s'.heap (aW (aQ S'.σ) lab') v d:=by
 have AI: ∀b,Rs c.G (aW (aQ S'.σ) lab') b→Rs c.G lab' b:=fun b z=>z.imp id fun z e=>z (aB fun l e'=>by rw [e] at e';cases e');have mv: ∀b c' d x,¬Rs c.G lab' b→At s'.heap b c' d x→c'≠ .none→At s'.heap b c' d x∧¬Rs c.G (aW (aQ S'.σ) lab') b:=fun b _ _ _ n q _=>⟨q,fun z=>n (AI b z)⟩;refine ⟨⟨⟨I.core.old,I.core.os,I.core.gens,fun b e=>I.core.res b (AI b e),fun env he=> ?_,fun b b' l e e'=>I.core.inj b b' l (aq.mp e).1 (aq.mp e').1,(fun b e=>aB fun l e'=>by rw [I.core.disj b e] at e';cases e'),I.core.tab⟩, ?_,fun b o e q z=> ?_,fun hs b e=> ?_,fun b l e=> ?_⟩,fun r=>r.mono mv⟩
 ·refine bc fun no=> ?_
  obtain ⟨q,l,d,y,e,r,z⟩:=I.core.fr env (List.mem_cons_of_mem _ he);obtain ⟨_,l2,_,_,e2,r2,_⟩:=C.fr env he;refine no ?_;clear no;rw [e] at e2;cases e2;exact ⟨q,l,d,y,e,r2.imp id (fun q=>by have:=OS _ _ q;exact nomatch this),z⟩
 ·have gQ:=I.slot
  cases hσ:S'.σ with
  |none=>trivial
  |some σ=>
   have:=ee mv (fun l hL b e=>⟨aq.mpr ⟨e,by unfold aQ;rw [hL,hσ];rfl⟩,fun _ _ _ q _=>q⟩) gQ;rw [hσ] at this;exact this
 ·obtain ⟨q1,q2⟩:=k b o e q z
  exact ⟨q1,aB fun l e'=>by rw [q2] at e';cases e'⟩
 ·exact aq.mpr ⟨m b e,by unfold aQ;rw [hs];rfl⟩
 ·have:=(aq.mp e).2
  unfold aQ at this;exact Bool.and_eq_true_iff.mp this
theorem FD(Aw:c.A.frames=some c.outer)(hL:(callEnvC fd L a).frame=some L){e:Value}(F:ji (ff c fd L a) lab s e s'){R:Result→Shared→Prop}
  (hR: ∀s'',aA c lab s none (fun _=>none) s''→ji c lab s e s''→R (.error e) s''):
  wpAny (model pw c.x.w) (ff c fd L a).A («leaving» (ff c fd L a).env e) (fun _ s''=>R (.error e) s'') (fun e' s''=>R (.error e') s'') s':=by
 refine bc fun no=> ?_;obtain ⟨ea,bs,rfl,Di,low,FB,tb⟩:=F;refine no ?_;clear no;have G8:(ff c fd L a).A.frames=some (callEnvC fd L a::c.outer):=by
  show c.A.frames.map (callEnvC fd L a:: ·)=_;rw [Aw];rfl
 have key: ∀a0 h',Heap.FlyingW bs c.outer ea (.ref 64) a0 h'→s'.heap.UpToSlots h'→R (.error (.ref ea)) {s' with heap:=h'}:=fun a0 h' fw up=>by
  have st:bs.StaysIn h':=fw.1;have kk:Kept lab s.heap (fun _=>none) h':=fun b o e q z=>by
   by_cases hf:o.cls≠ .type "frame"∨∃vs,o.data= .fields vs
   ·refine bc fun no=> ?_
    obtain ⟨sl,r1,r2⟩:=Di b o e q z hf;refine no ?_;clear no;exact ⟨⟨sl,st _ _ r1,r2⟩,rfl⟩
   ·refine bc fun no=> ?_
    obtain ⟨⟨sl,q1,q2⟩,_⟩:=k b o e q z;obtain ⟨dQ,r1⟩:=up b _ q1 (fun vs e=>hf (.inr ⟨vs,e⟩));refine no ?_;clear no;exact ⟨⟨dQ,r1,fun n=>absurd (.inl n) hf⟩,rfl⟩
  have Ex: ∀b o o0,c.x.base.get? b=some o0→h'.get? b=some o→bs.get? b=some o:=fun b o o0 h0 ho=>by
   obtain ⟨o',pO⟩:=I.core.old.there b o0 h0;have hb:=low b o' o0 h0 pO;have:=st _ _ hb;rw [ho] at this;cases this;exact hb
  have old:OldK c.x.base h':=oa I.core.old fun b o o0 h0 ho=>st _ _ (low b o o0 h0 ho);refine hR _ ⟨⟨old,I.core.os,I.core.gens,fun b e=> ?_,fun env he=> ?_,(fun b b' l e=>nomatch e),fun b e=>rfl,C.tab.1,tb.keep st⟩,trivial,kk,(fun e=>nomatch e),(fun b l e=>nomatch e)⟩ ⟨ea,bs,rfl,Di,Ex,.inl ⟨a0,fw⟩,tb⟩
  ·rcases e with e|e
   ·refine bc fun no=> ?_
    obtain ⟨q,cl,d,y,z,n⟩:=C.res b (.inl e);refine no ?_;clear no;exact ⟨q,cl,d,y,(kk.at b cl d y (C.disj b e) z n).1,n⟩
   ·exact absurd rfl e
  ·refine bc fun no=> ?_
   obtain ⟨q,l,d,y,e,r,z,m⟩:=C.fr env he;refine no ?_;clear no;have hg:c.G l:=r.elim id fun q=>by have:=OS _ _ q;cases this
   exact ⟨q,l,d,y,e,.inl hg,(kk.at l _ d y (C.disj l hg) z (fun e=>nomatch e)).1,m⟩
 rcases FB with ⟨a0,fw⟩|⟨oe,vs,a0,he,hc,hd,h0,h1,em,GD,M1⟩
 ·exact wpAny_leaves_onW G8 hL fw fun h' f1 f2=>key a0 h' f1 f2
 ·refine wpAny_leaving_firstW G8 M1 hL he em GD hd h1 h0 fun h' ⟨k1,⟨_,_,k2⟩,k3,k4⟩=>key a0 h' ⟨k1,GD,k2, ?_⟩ k4
  rw [hc] at k3;exact k3
end
theorem qR{d u n:Nat}(h1:d+4* (n+1)≤590)(h2:u+300* (n+1)≤4600):d+1+2+4*n≤590∧u+3+30+4*60+300*n≤4600:=
 ⟨Nat.le_trans (Nat.le_trans (Nat.le_of_eq (Nat.add_right_comm d 3 (4*n))) (Nat.le_succ _)) h1,Nat.le_trans (Nat.le_trans (Nat.le_of_eq (Nat.add_right_comm u 273 (300*n))) (Nat.add_le_add_left (by decide:273≤300) _)) h2⟩
theorem vT{x:Cx}{r:ba}{n:Nat}(HR:aY (fW x n 60) r)(HX:lE (fW x n 60) r): ∀(c:Fc) (lab:ag) (s:Shared) (a:Addr) (F:dj) (vs:List Value) (as:List V) (σ σ':Option Slot) (o:bH D),(a,F)∈eB→
  Ds r F as σ=some (o,σ')→c.x=x→xb c.x→c.x.base.objs.size≤s.heap.objs.size→AR c.A c.outer (n+1)→fV lab→ch c.x c.G lab c.outer s→bf c.x.w s.heap c.G lab σ→cD c s.heap lab vs as→
  ∀(R:Result→Shared→Prop),
   (∀v d lab' s',o= .ok d→aA c lab s σ' lab' s'→ei c s'.heap lab' v d→R (.ok (.ret v)) s')→
   (∀e lab' s',o= .bad→aA c lab s σ' lab' s'→ji c lab s e s'→R (.error e) s')→
   codeAny (model pw c.x.w) c.A (.call (.ref a) ⟨vs,[]⟩) R s:=by
 intro c lab s a F vs as σ σ' o hF hf hx X hb hA OS C sl rv R hR hE;refine aH hf fun vn hf=>ae hf fun q hq hf=> ?_;have A6:gS F as.length=true:=Bool.and_eq_true_iff.mpr ⟨decide_eq_true vn.1,decide_eq_true vn.2⟩;obtain ⟨Nu,Nt⟩:=qR hA.depth hA.units;refine fP hF X hA.handled hA.frames hA.guards (Nat.le_trans (Nat.le_add_right _ _) (Nat.le_trans hA.depth (by decide))) (Nat.le_trans (Nat.le_add_right _ _) (Nat.le_trans hA.units (by decide))) OS C sl hb rv A6 fun fd L lab1 s1 hL O N I k m=> ?_;have hP:fW x n 60 (ff c fd L a):=⟨hx,O,Nu,Nt⟩;obtain ⟨o2,S2⟩:=q;refine i5 HR HX hP rfl N (ak F.st) _ lab1 s1 _ _ hq I _ _ (fun f fl lab' s' e I' k' m' r'=> ?_) (fun e lab' s' q I' k' F'=> ?_)
 ·subst e
  have e9:=Option.some.inj (show some (bH.ok (gY fl),S2.σ)=some (o,σ') from hf);obtain ⟨CP,rp⟩:=sR C OS I' (k.trans k') (m.trans m');obtain rfl:S2.σ=σ':=congrArg Prod.snd e9;refine hR _ (gY fl) _ s' (congrArg Prod.fst e9).symm CP ?_;exact aU.is (P:=fun f fl=>ei c s'.heap (aW (aQ S2.σ) lab') (match f with| .ret v=>v|_=>.none) (gY fl)) r' aD.none aD.none fun v d r=>rp r
 ·subst q
  refine aH (show (if S2.σ.isNone then some (bH.bad,none) else none)=some (o,σ') from hf) fun hn e9=> ?_;have e9:=Option.some.inj e9;obtain rfl:none=σ':=congrArg Prod.snd e9;exact FD C OS I' (k.trans k') hA.frames rfl (F'.back k) fun s'' CP FX=>hE e _ s'' (congrArg Prod.fst e9).symm CP FX
set_option backward.match.sparseCases false
noncomputable def ix(P:Fc→Prop)(fn:au)(r:ba):Prop:=∀c ns,P c→aT c ns→∀(f:Expr) (args:List Expr) (p:Pos) (o:Expr) (m:Str) (as:List Expr) (S S':St) (res:bH V) (lab:ag) (s:Shared),cM ns (.Call f args [] p) S=some (o,m,as)→pt fn r ns o m as S=some (res,S')→Inv c lab S s→
 ∀(Q:Value→Shared→Prop) (E:Value→Shared→Prop),ck c lab s S' res (dc c) Q→dl c lab s S' res E→wpAny (model pw c.x.w) c.A (eval (.Call f args [] p) c.env) Q E s
section
variable{P:Fc→Prop}{r:ba}(R:aY P r)(HG:qj P){x:Cx}{fn:au}{n k:Nat}(hF:cZ x fn n)(hK:kg fn)(HH:ix P fn r){c:Fc}{ns:ab}(hP:P c)(H:fW x n k c)(hN:aT c ns)
include R HG hF hK HH hP H hN
theorem Ai(f:Expr)(args:List Expr)(p:Pos):gL c (eval (.Call f args [] p) c.env) (oD fn r ns (.Call f args [] p)) (dc c):=by
 intro S lab s res S' hf I Q E hQ hE;refine du hf (fun _ hf=>aH hf fun hc hf=> ?_) fun q hh hf=>HH c ns hP hN f args p q.1 q.2.1 q.2.2 S S' res lab s hh hf I Q E hQ hE;have hp:=(Bool.and_eq_true_iff.mp hc).2;have hl:=(Bool.and_eq_true_iff.mp (Bool.and_eq_true_iff.mp hc).1).2;have aP:=of_decide_eq_true (Bool.and_eq_true_iff.mp (Bool.and_eq_true_iff.mp hc).1).1;clear hc;refine du hf (fun _ hf=>ae hf fun q hq h9=> ?_) fun q hq h9=> ?_
 ·rw [d5 hq] at hl ⊢
  refine du h9 (fun _ h9=>du h9 (fun _ h9=>ww R hF hK hP H hN hl aP hp S lab s res S' h9 I Q E hQ hE) fun t ht h9=>aH h9 fun ha h8=> ?_) fun d hd h9=>ae h9 fun kd MS h9=>aH h9 fun hm h8=> ?_
  ·refine ae ht fun q hq h7=>ae h7 fun a ho h7=>gM h7 fun C hC h7=> ?_
   refine (iz hq).elim fun gp e=>e.elim fun p' e=> ?_;rw [e,dU ho] at hl ⊢;rw [List.isEmpty_iff.mp (Bool.and_eq_true_iff.mp ha).1];subst h7;exact Bn R hF hK hP H hN hC (Bool.and_eq_true_iff.mp ha).2 hl h8 I hQ hE
  ·rw [oB hd,beq_iff_eq.mp hm] at hl ⊢
   rw [iF MS];rw [iF MS] at hp;exact t0 R hF hK hP H hN hl hp S lab s res S' h8 I Q E hQ hE
 ·rw [bM hq] at h9 ⊢
  exact rL R hF hK hP H hN hp S lab s res S' h9 I Q E hQ hE
theorem FI(e:Expr):gL c (eval e c.env) (oD fn r ns e) (dc c):=by
 have no: ∀{e:Expr},oD fn r ns e= .fail→gL c (eval e c.env) (oD fn r ns e) (dc c):=fun h S lab s res S' hf=>by rw [h] at hf;exact cg hf
 cases e with
 |Constant x k p=>exact wT R hP hN fn k p x
 |Name x p=>exact Ag R hP hN fn x p
 |BinOp l op e p=>exact C3 R hP hN fn l op e p
 |UnaryOp op e p=>exact FU R hP hN fn op e p
 |BoolOp op es p=>exact Aj R hP hN fn op es p
 |Compare l ops es p=>exact CZ R hP hN fn l ops es p
 |IfExp t a b p=>exact FW R hP hN fn t a b p
 |Tuple es k p=>exact wS R hP hN fn es k p
 |List es p=>exact Ah R hP hN fn es p
 |Attribute o f p=>exact Al R hP hN fn o f p
 |Subscript v sl p=>exact CY R hP hN fn v sl p
 |ListComp elt gens sc p=>
  match gens with
  |[⟨target,iter,ifs,.ofNat 0⟩]=>exact rg R HG hP hN fn elt target iter ifs sc p
  |[]=>exact no rfl
  |[⟨_,_,_,.ofNat (_+1)⟩]=>exact no rfl
  |[⟨_,_,_,.negSucc _⟩]=>exact no rfl
  |⟨_,_,_,.ofNat 0⟩::_::_=>exact no rfl
  |⟨_,_,_,.ofNat (_+1)⟩::_::_=>exact no rfl
  |⟨_,_,_,.negSucc _⟩::_::_=>exact no rfl
 |Call f args Mw p=>
  cases Mw with
  |nil=>exact Ai R HG hF hK HH hP H hN f args p
  |cons _ _=>exact no rfl
 |_=>exact no rfl
end
theorem Co{c:Fc}{lab bS:ag}{s0 s':Shared}(k:Kept bS s0.heap lab s'.heap)(C:ch c.x c.G lab c.outer s'){e:Addr}(en:s0.heap.get? e=none)(eb:c.x.base.objs.size≤e)(nf: ∀env∈c.outer,env.frame≠some e){oe:Obj}{vs:Array Value}{a0:Value}
  (he:s'.heap.get? e=some oe) (hc:oe.cls= .ref 64) (hd:oe.data= .fields vs) (h0:vs[0]? =some a0) (h1:vs[1]? =some .none):ji c bS s0 (.ref e) s':=by
 have Eb: ∀a o,s'.heap.get? a=some o→(o.cls≠ .type "frame"∨∃vs,o.data= .fields vs)→a∉qQ c.outer:=fun a o q hc hm=>by
  refine bc fun no=> ?_;obtain ⟨env,he,hf⟩:=List.mem_filterMap.mp hm;obtain ⟨_,L',d',y',e',_,⟨sl,z,_⟩,m⟩:=C.fr env he;refine no ?_;clear no;rw [e'] at hf;cases hf;rw [z] at q;cases q;rcases hc with hc|⟨vs,hc⟩
  ·exact hc rfl
  ·exact m vs hc
 refine ⟨e,hideAll s'.heap (e::qQ c.outer),rfl,fun a o hl q n hc=> ?_,fun a o o0 h0 ho=> ?_,.inr ⟨oe,vs,a0,he,hc,hd,h0,h1,fun b o e=>of_hideAll _ e, ?_, ?_⟩, ?_⟩
 ·refine bc fun no=> ?_
  obtain ⟨⟨sl,q1,q2⟩,_⟩:=k a o hl q n;refine no ?_;clear no;refine ⟨sl,hideAll_get _ q1 fun hm=> ?_,q2⟩;rcases List.mem_cons.mp hm with rfl|hm
  ·rw [en] at q;exact nomatch q
  ·exact Eb a _ q1 hc hm
 ·refine hideAll_get _ ho fun hm=> ?_
  rcases List.mem_cons.mp hm with rfl|hm
  ·exact Nat.lt_irrefl _ (Nat.lt_of_lt_of_le (Heap.lt_size h0) eb)
  ·refine bc fun no=> ?_
   obtain ⟨env,he,hf⟩:=List.mem_filterMap.mp hm;obtain ⟨_,L',d',y',e',r,z,_⟩:=C.fr env he;refine no ?_;clear no;rw [e'] at hf;cases hf;have hb:=(C.res _ (r.elim .inl fun r=>.inr (by rw [r];exact fun e=>nomatch e))).1;exact Nat.lt_irrefl _ (Nat.lt_of_lt_of_le (Heap.lt_size h0) hb)
 ·exact hideAll_none _ List.mem_cons_self
 ·refine pI fun env he=> ?_
  refine bc fun no=> ?_;obtain ⟨q,L,d,y,e',r,z,m⟩:=C.fr env he;refine no ?_;clear no;exact ⟨q,L,d,y,e',hideAll_none _ (List.mem_cons_of_mem _ (List.mem_filterMap.mpr ⟨env,he,e'⟩)),z,m⟩
 ·refine C.tab.2.mono (fun o q=>hideAll_get _ q fun hm=> ?_) fun b o vs q e1 e2=>hideAll_get _ q fun hm=> ?_
  ·rcases List.mem_cons.mp hm with rfl|hm
   ·exact Nat.lt_irrefl _ (Nat.lt_of_lt_of_le C.tab.1 eb)
   ·refine bc fun no=> ?_
    obtain ⟨env,he,hf⟩:=List.mem_filterMap.mp hm;obtain ⟨_,L',d',y',e',r,z,_⟩:=C.fr env he;refine no ?_;clear no;rw [e'] at hf;cases hf;have hb:=(C.res _ (r.elim .inl fun r=>.inr (by rw [r];exact fun e=>nomatch e))).1;exact Nat.lt_irrefl _ (Nat.lt_of_lt_of_le C.tab.1 hb)
  ·rcases List.mem_cons.mp hm with rfl|hm
   ·rw [he] at q;cases q;rw [hc] at e1;exact nomatch e1
   ·exact Eb b o q (.inl (by rw [e1];exact fun e=>nomatch e)) hm
theorem pC(P:Params):(KF P).lookup 64=some (excClassObj "BadConfig" "BadConfig" 64 63 [.ref 39] [.ref 39,.type "Exception",.type "BaseException",.type "object"] true [] [] false none none (some (.ref 55)) none (some (.str "BadConfig" 242)) (some (.str "BadConfig" 250)) (some (.bool true)) "Exception.__new__"):=by
 unfold KF
 kernel_rfl
noncomputable def yI:List Value:=[.ref 64,.ref 39,.type "Exception",.type "BaseException",.type "object"]
theorem iL(P:Params):(keepIn (KF P) (.ref 64)&&findIn (KF P) (.ref 64) "__setattr__"==some (some (.builtin "object.__setattr__"))&&findIn (KF P) (.ref 64) "__init__"==some (some (.ref 36))&&typeIn (KF P) (.ref 36)==some (.type "function")&&mroIn (KF P) 64 (.type "object")==some true&&findIn (KF P) (.ref 64) "told"==some none&& (clsIn (KF P) 64).any (fun cd=>cd.hasDict&&cd.mro==yI))=true:=by
 unfold KF
 kernel_rfl
theorem tz(self:Value):PySem.refuseLoop self "__setattr__" yI=pure ():=by kernel_rfl
theorem Cq{w:World}{A:Around}{s:Shared}(X:(KF w.params).In s.heap){e:Addr}{fv:Array Value}(he:s.heap.get? e=some ⟨.ref 64,none,.fields fv,#[]⟩){v:Value}{tk:Tok}{R:Result→Shared→Prop}
  (hQ: ∀h' t,h'.get? e=some ⟨.ref 64,some s.heap.objs.size,.fields fv,#[]⟩→(∀b o,b≠e→s.heap.get? b=some o→h'.get? b=some o)→R (.ok (.ret .none)) {s with heap:=h',toks:=t}):codeAny (model pw w) A (.call (.builtin "object.__setattr__") ⟨[.ref e,.str "told" tk,v],[]⟩) R s:=by
 have F:=iL w.params;simp only [Bool.and_eq_true,beq_iff_eq] at F;refine bc fun no=> ?_;obtain ⟨⟨⟨⟨⟨⟨f1,f2⟩,f3⟩,f4⟩,f5⟩,f6⟩,f7⟩:=F;have I:PySem.W.InstAt s.heap e ⟨.ref 64,none,.fields fv,#[]⟩ 64 none:=⟨he,rfl,rfl,trivial⟩;have SF:=PySem.F.store_object;obtain ⟨cd,hc,hd⟩:=any_some f7;rw [Bool.and_eq_true,beq_iff_eq] at hd;obtain ⟨hd,Og⟩:=hd;refine no ?_;clear no;have hm:Looks (model pw w) s.heap (mroOf (.ref 64)) cd.mro:=(looks_clsIn X hc).andThen .now;refine codeAny_call_builtin SF.slot.plain SF.entry (@check_slot (model pw w) _ _ s "object.__setattr__" "object" "__setattr__" (.ref e) [.str "told" tk,v] [] _ SF.kind SF.split (I.type.andThen (looks_mroIn X f5)) (SF.args (.ref e) (.str "told" tk) v) ?_);rw [osa_eq,refuse_eq];refine wpAny_bind (wpAny_bind (I.type.here (wpAny_bind (hm.here ?_))));rw [Og,tz];refine wpAny_pure (wpAny_bind (I.type.here (wpAny_bind ((looks_findIn X f6).here (wpAny_bind (wpAny_pure ?_))))));show wpAny _ _ (Builtin.ObjectAttr.storeInOwnDict (.ref e) (.ref 64) (.str "told" tk) "told" v false) _ _ _;unfold Builtin.ObjectAttr.storeInOwnDict;refine wpAny_bind (wpAny_pure ?_);rw [if_neg (by decide)];refine wpAny_bind ?_;show wpAny _ _ (instanceDict e true) _ _ _;unfold instanceDict;refine wpAny_bind (wpAny_loadPart he (wpAny_bind ((looks_clsIn X hc).here ?_)));rw [hd];refine wpAny_bind (wpAny_alloc (wpAny_bind (wpAny_update (o:=⟨.ref 64,none,.fields fv,#[]⟩) (Heap.get?_push_of_some _ he) (wpAny_pure ?_))));dsimp only;have kO:e≠s.heap.objs.size:=Nat.ne_of_lt (Heap.lt_size he);have AM:At ((s.heap.push {cls:=.type "dict",data:=.dict #[]}).update e fun o=>{o with dict:=some s.heap.objs.size}) s.heap.objs.size (.type "dict") none (.dict #[] 0):=by
  refine .of ?_;rw [Heap.get?_update_other _ _ kO];exact Heap.get?_push_size _ rfl
 refine wpAny_bind (wpAny_pure (wpAny_bind (fb AM (by intro e he;simp at he) fun h' oE n' g1 g2 g3 g4 g5=> ?_)));refine bc fun no=> ?_;obtain ⟨sl,SL,T8⟩:=g1;refine no ?_;clear no;have Tr:oE.size≤1:=by
  have:(nsFind #[] "told").isSome=false:=rfl;rw [this] at g4
  simpa using g4
 refine wpAny_bind (wpAny_lookBehind SL (pastItsLine_dict (by rw [sizeLine_eq];lia)) (wpAny_pure ?_));refine hQ h' _ ?_ fun b o hb Ma=> ?_
 ·rw [g5.2 e kO,Heap.get?_update_self _ (Heap.get?_push_of_some _ he) rfl]
 ·have AK:=Heap.lt_size Ma
  rw [g5.2 b (Nat.ne_of_lt AK),Heap.get?_update_other _ _ (Ne.symm hb)];exact Heap.get?_push_of_some _ Ma
theorem rK{w:World}{A:Around}{E:Value→Shared→Prop}{s:Shared}(X:(KF w.params).In s.heap){e:Addr}{fv:Array Value}(he:s.heap.get? e=some ⟨.ref 64,none,.fields fv,#[]⟩){v:Value}{Q:Unit→Shared→Prop}
  (hQ: ∀h' t,h'.get? e=some ⟨.ref 64,some s.heap.objs.size,.fields fv,#[]⟩→(∀b o,b≠e→s.heap.get? b=some o→h'.get? b=some o)→Q () {s with heap:=h',toks:=t}):wpAny (model pw w) A (setAttr (.ref e) "told" v) Q E s:=by
 have F:=iL w.params;simp only [Bool.and_eq_true,beq_iff_eq] at F;refine bc fun no=> ?_;obtain ⟨⟨⟨⟨⟨⟨f1,f2⟩,f3⟩,f4⟩,f5⟩,f6⟩,f7⟩:=F;refine no ?_;clear no;exact PySem.W.set_plain X (C:=64) (od:=none) ⟨he,rfl,rfl,trivial⟩ f2 (Cq (s:={s with toks:=s.toks+1}) X he hQ)
noncomputable abbrev gw:List Value:=[.ref 39,.type "Exception",.type "BaseException",.type "object"]
noncomputable abbrev sZ:Obj:=excClassObj "BadConfig" "BadConfig" 64 63 [.ref 39] gw true [] [] false none none (some (.ref 55)) none (some (.str "BadConfig" 242)) (some (.str "BadConfig" 250)) (some (.bool true)) "Exception.__new__"
section
variable{A:Around}{E:Value→Shared→Prop}{h:Heap}{g:Array GenState}{d:Drawn}{t:Nat}{os:OsState}(hC:h.get? 64=some sZ)
include hC
theorem nF{M:Model}{rest:List Value}{Q:Unit→Shared→Prop}(hq:Q () ⟨h,g,d,t,os⟩):wpAny M A (checkBuiltinCall "Exception.__new__" ⟨.ref 64::rest,[]⟩) Q E ⟨h,g,d,t,os⟩:=by
 have Fn:=PySem.F.excBase_Exception;have Lb:(Value.ref 64::gw).contains (.type "Exception")=true:=by decide
 have Ql:=Fn.noStar;simp only [checkBuiltinCall,Fn.newKind,Fn.newSplit,Fn.newRow]
 repeat (first|refine wpAny_loadPart_at hC ?_|(refine wpAny_isSubtype_exc hC ?_;rw [Lb])|refine wpAny_staticBase_exc hC ?_|refine wpAny_madeBy_exc hC ?_|simp only [bne_self_eq_false,Bool.false_eq_true,if_false]|wp_step)
 exact hq
theorem CV{prog:Program}{w:World}{R:Result→Shared→Prop}{rest:List Value}(nP:rest.length≤sizeLine)
  (hq:R (.ok (.ret (.ref (h.objs.size+1)))) ⟨(h.push {cls:=.type "tuple",data:=.seq rest.toArray}).push {cls:=.ref 64,data:=.fields #[.ref h.objs.size,.none,.none,.none,.bool false,.none]},g,d,t,os⟩):
  codeAny (model prog w) A (.builtin "Exception.__new__" ⟨.ref 64::rest,[]⟩) R ⟨h,g,d,t,os⟩:=by
 have Fn:=PySem.F.excBase_Exception;have Qn:=Fn.ends;have M9:(Value.ref 64::gw).contains (.type "Exception")=true:=by decide
 have Sd:(Value.ref 64::gw).contains (.type "AttributeError")=false:=by decide
 have R7:(Value.ref 64::gw).contains (.type "NameError")=false:=by decide
 refine codeAny_builtinAt Fn.entry ?_;unfold Builtin.«BaseException.__new__»;refine PySem.wpAt_bind ?_;show PySem.wpAt _ _ _ (stack>>=_) _ _ _;refine PySem.wpAt_bind (PySem.wpAt_stack fun p below=>PySem.wpAt_of_wpAny ?_)
 wp_walk
 refine PySem.wpAt_of_wpAny ?_;rw [Fn.owner]
 repeat (first|with_reducible refine wpAny_madeHere_exc Fn.canon hC ?_|with_reducible refine wpAny_loadPart_at hC ?_|(with_reducible refine wpAny_isSubtype_exc hC ?_;first|rw [M9]|rw [Sd]|rw [R7])|wp_step)
 show R _ _;rw [Heap.size_push];exact hq
theorem nE{w:World}{rest:List Value}{Q:Fin→Shared→Prop}(X:(KF w.params).In h)(nP:rest.length≤sizeLine)
  (hq:wpAny (model pw w) A (call (.ref 36) (.ref (h.objs.size+1)::rest)) (fun r s'=>r= .none∧Q (.done (.ret (.ref (h.objs.size+1)))) s') E ⟨(h.push {cls:=.type "tuple",data:=.seq rest.toArray}).push {cls:=.ref 64,data:=.fields #[.ref h.objs.size,.none,.none,.none,.bool false,.none]},g,d,t,os⟩):
  wpAny (model pw w) A (Builtin.«type.__call__» ⟨.ref 64::rest,[]⟩) Q E ⟨h,g,d,t,os⟩:=by
 have Fn:=PySem.F.excBase_Exception;have F:=iL w.params;simp only [Bool.and_eq_true,beq_iff_eq] at F;refine bc fun no=> ?_;obtain ⟨⟨⟨⟨⟨⟨f1,f2⟩,f3⟩,f4⟩,f5⟩,f6⟩,f7⟩:=F;refine no ?_;clear no
 repeat (first|with_reducible refine wpAny_loadPart_at hC ?_|with_reducible refine wpAny_madeBy_exc hC ?_|wp_step)
 refine codeAny_call_builtin_code (Code.quiet_builtin _ Fn.quiet) (nF hC ?_);refine CV hC nP ?_;show wpAny _ _ _ _ _ _;have SA:=Heap.get?_push_of_some {cls:=.ref 64,data:=.fields #[.ref h.objs.size,.none,.none,.none,.bool false,.none]}
  (Heap.get?_push_of_some {cls:=.type "tuple",data:=.seq rest.toArray} hC)
 have X₁:(KF w.params).In ((h.push {cls:=.type "tuple",data:=.seq rest.toArray}).push {cls:=.ref 64,data:=.fields #[.ref h.objs.size,.none,.none,.none,.bool false,.none]}):=fun a o e=>Heap.get?_push_of_some _ (Heap.get?_push_of_some _ (X a o e));have Oi:((h.push {cls:=.type "tuple",data:=.seq rest.toArray}).push
   {cls:=.ref 64,data:=.fields #[.ref h.objs.size,.none,.none,.none,.bool false,.none]}).get? (h.objs.size+1)=some
   {cls:=.ref 64,data:=.fields #[.ref h.objs.size,.none,.none,.none,.bool false,.none]}:=by heap_get
 have Sa:(Value.ref 64::gw).contains (.ref 64)=true:=by decide
 unfold isInstance
 repeat (first|with_reducible refine wpAny_loadPart_at Oi ?_|(with_reducible refine wpAny_isSubtype_exc SA ?_;rw [Sa])|wp_step)
 show wpAny _ _ (typeLookup (.ref 64) _) _ _ _;refine (looks_findIn X₁ f3).here ?_;refine wpAny_holding (wpAny_bind ((bind_fn X₁ _ f4).here ?_));refine wpAny_bind (wpAny_mono hq (fun r s' hr=> ?_) fun _ _ x=>x);refine bc fun no=> ?_;obtain ⟨rfl,hQ⟩:=hr;refine no ?_;clear no
 wp_walk
 exact hQ
end
theorem z7{w:World}{A:Around}{E:Value→Shared→Prop}{h:Heap}{g:Array GenState}{d:Drawn}{t:Nat}{os:OsState}{rest:List Value}{Q:Value→Shared→Prop}(X:(KF w.params).In h)(nP:rest.length≤sizeLine)
  (hq:wpAny (model pw w) {A with depth:=A.depth+1,units:=A.units+1} (call (.ref 36) (.ref (h.objs.size+1)::rest)) (fun r s'=>r= .none∧Q (.ref (h.objs.size+1)) s') E ⟨(h.push {cls:=.type "tuple",data:=.seq rest.toArray}).push {cls:=.ref 64,data:=.fields #[.ref h.objs.size,.none,.none,.none,.bool false,.none]},g,d,t,os⟩):
  wpAny (model pw w) A (call (.ref 64) rest) Q E ⟨h,g,d,t,os⟩:=by
 have hC:h.get? 64=some sZ:=X _ _ (pC w.params);have f1:=tc_lookup;have f2:=tc_bind (.ref 64);have hT:(⟨h,g,d,t,os⟩:Shared).TypeIs (.ref 64) "type":=⟨_,hC,rfl⟩;refine wpAny_call (codeAny_of_tree ?_);show wpAny _ _ (callAny (.ref 64) _) _ _ _
 repeat (any_goals (first|assumption|with_reducible refine wpAny_loadPart_at hC ?_|wp_step))
 refine ⟨rfl, ?_⟩;refine codeAny_call_builtin_at (Code.quiet_builtin _ (by decide+kernel)) entry_typeCall (wpAny_check_type_call_sub hC ?_);have hu:=qp A 64 rest;refine (congrArg (fun B=>wpAny (model pw w) B (Builtin.«type.__call__» ⟨.ref 64::rest,[]⟩) _ _ (⟨h,g,d,t,os⟩:Shared)) hu).mpr ?_;exact nE hC X nP hq
theorem FQ: ∃p1 p2 p3 p4,ak (bB 2 0)= [.Assign [.Attribute (.Name "self" p1) "told" p2] (.Name "told" p3) p4]:=by
 conv=>arg 1;intro p1;arg 1;intro p2;arg 1;intro p3;arg 1;intro p4;lhs;unfold bB bg pw;whnf
 exact ⟨_,_,_,_,rfl⟩
theorem qH:bq (bB 2 0)= [("self":Str),("told":Str)]:=by kernel_rfl
theorem wN{c:Fc}{lab lab1:ag}{S:St}{s s1:Shared}{σ:Option Mine.Slot}(I:Inv c lab S s)(P:aA (withG c (Rs c.G lab)) (fun _=>none) s σ lab1 s1):
  ∃lab',Inv c lab' S s1∧Kept lab s.heap lab' s1.heap∧aV lab lab'∧∀{v d},aD s1.heap (Rs (Rs c.G lab) fun _=>none) v d→aD s1.heap (Rs c.G lab') v d:=by
 have P':aA (withG c (bY (fun _=>false) c.G lab)) (aW (fun _=>false) lab) s none (fun _=>none) s1:=by
  rw [fS,ku];exact P.dropAll
 refine bc fun no=> ?_;obtain ⟨I',k',m',rb⟩:=eY I (fun _ _=>rfl) P' (fun a l e=>nomatch e) (.inl ⟨fun _=>rfl,rfl⟩);refine no ?_;clear no;refine ⟨_,I',k',m',fun r=>rb ?_⟩;rw [fS];exact r
theorem zt{c:Fc}{lab:ag}{S:St}{s:Shared}(O:dq c)(I:Inv c lab S s)(Ha:c.A.depth+1≤598)(Pw:c.A.units+1≤4900){t:Tok}{Q:Value→Shared→Prop}{E:Value→Shared→Prop}
  (hQ: ∀e a0 dx s',aA (withG c (Rs c.G lab)) (fun _=>none) s none (fun _=>none) s'→s.heap.get? e=none→s.heap.objs.size≤e→s'.heap.get? e=some ⟨.ref 64,some dx,.fields #[a0,.none,.none,.none,.bool false,.none],#[]⟩→Q (.ref e) s'):
  wpAny (model pw c.x.w) c.A (call (.ref 64) [.int 0 t]) Q E s:=by
 have X:=I.kf O;have hb:=bx (c:=c) I;refine bc fun no=> ?_;obtain ⟨h,g,d,tk,os⟩:=s;refine no ?_;clear no;refine z7 X (by rw [sizeLine_eq];exact Nat.le_of_ble_eq_true rfl) ?_;generalize MX:(h.push {cls:=.type "tuple",data:=.seq [Value.int 0 t].toArray}).push {cls:=.ref 64,data:=.fields #[.ref h.objs.size,.none,.none,.none,.bool false,.none]}=h2;have kp: ∀b o,h.get? b=some o→h2.get? b=some o:=fun b o e=>by rw [←MX];exact Heap.get?_push_of_some _ (Heap.get?_push_of_some _ e)
 have gP:h2.objs.size=h.objs.size+2:=by rw [←MX,Heap.size_push,Heap.size_push]
 have he:h2.get? (h.objs.size+1)=some ⟨.ref 64,none,.fields #[.ref h.objs.size,.none,.none,.none,.bool false,.none],#[]⟩:=by rw [←MX];heap_get
 have en:h.get? (h.objs.size+1)=none:=Heap.get?_none_of_le (Nat.le_succ _);have C2:ch c.x (Rs c.G lab) (fun _=>none) c.outer (⟨h2,g,d,tk,os⟩:Shared):=by
  have:=dG (p:=fun _=>false) I.core rfl;rw [fS,ku] at this;exact this.keeps ⟨h2,tk,rfl,kp⟩
 have mF:((36:Addr),(⟨bB 2 0,[dS ""]⟩:dj))∈eB:=List.mem_cons_self;refine wpAny_call (fP (c:={withG c (Rs c.G lab) with A:={c.A with depth:=c.A.depth+1,units:=c.A.units+1}}) (lab:=fun _=>none) (s:=⟨h2,g,d,tk,os⟩) (F:=⟨bB 2 0,[dS ""]⟩) (as:=[.d (.val (.ref (h.objs.size+1))),.d (.int 0)]) (σ:=none) mF ⟨O.K,O.lim,O.bi,O.mn⟩ O.handled O.frames O.guards Ha Pw (fun _ _ e=>nomatch e) C2 trivial (by show c.x.base.objs.size≤h2.objs.size;rw [gP];exact Nat.le_trans hb (Nat.le_add_right _ 2))
  (.cons _ _ _ _ (aD.val _) (.cons _ _ _ _ (aD.int _ _) .nil)) (by unfold gS;dsimp only;rw [qH];rfl) fun fd L lab1 s1 hL O1 N1 I1 k1 m1=> ?_)
 refine bc fun no=> ?_;obtain ⟨p1,p2,p3,p4,gW⟩:=FQ;refine no ?_;clear no;dsimp only;rw [gW];have hρ:ej ⟨bB 2 0,[dS ""]⟩ [.d (.val (.ref (h.objs.size+1))),.d (.int 0)]= [((("self":Str),Loc.d (.val (.ref (h.objs.size+1)))):Str×Loc),(("told":Str),Loc.d (.int 0))]:=by
  unfold ej;dsimp only;rw [qH];rfl
 rw [hρ] at I1;refine wpAny_execs_cons (plainObj_wpAny_Assign_Attribute (wpAny_Name (bI O1 I1 (x:="told") (l:=.d (.int 0)) rfl fun tv rt=> ?_) rfl) rfl);refine wpAny_Name (bI O1 I1 (x:="self") (l:=.d (.val (.ref (h.objs.size+1)))) rfl fun sv rs=> ?_) rfl;obtain rfl:sv=_:=aD.val' rs;have X1:(KF c.x.w.params).In s1.heap:=I1.kf O1;have PQ:s1.heap.get? (h.objs.size+1)=some ⟨.ref 64,none,.fields #[.ref h.objs.size,.none,.none,.none,.bool false,.none],#[]⟩:=by
  refine bc fun no=> ?_;obtain ⟨⟨sl,q1,q2⟩,_⟩:=k1 _ _ rfl he (fun e=>nomatch e);refine no ?_;clear no;rw [q2 (fun e=>nomatch e)] at q1;exact q1
 refine rK X1 PQ fun h3 t3 g1 g2=>wpAny_execs_nil ⟨rfl,hQ _ _ _ _ ?_ en (Nat.le_succ _) g1⟩;have kk:Kept (fun _=>none) h (fun _=>none) h3:=fun a o _ q z=>by
  refine bc fun no=> ?_;obtain ⟨⟨sl,q1,q2⟩,_⟩:=k1 a o rfl (kp a o q) z;refine no ?_;clear no;exact ⟨⟨sl,g2 a _ (by rintro rfl;rw [en] at q;exact nomatch q) q1,q2⟩,rfl⟩
 refine ⟨⟨qI I1.core.old fun b o rS e=>g2 b o (fun q=>Nat.lt_irrefl _ (Nat.lt_of_lt_of_le (q▸rS:h.objs.size+1<c.x.base.objs.size) (Nat.le_trans hb (Nat.le_succ _)))) e,I1.core.os,I1.core.gens,fun a e=> ?_,fun env he=> ?_,(fun _ _ _ e=>nomatch e),fun _ _=>rfl,I.core.tab.1,I1.core.tab.2.mono (fun o e=>g2 918 o (fun q=>Nat.lt_irrefl _ (Nat.lt_of_lt_of_le (q▸I.core.tab.1:h.objs.size+1<c.x.base.objs.size) (Nat.le_trans hb (Nat.le_succ _)))) e) (fun b o vs e e1 e2=>g2 b o (fun q=>by rw [q,PQ] at e;rw [←Option.some.inj e] at e1;exact nomatch e1) e)⟩,trivial,kk,(fun e=>nomatch e),(fun _ _ e=>nomatch e)⟩
 ·rcases e with e|e
  ·refine bc fun no=> ?_
   obtain ⟨q,cl,dd,y,z,n⟩:=I.core.res a e;refine no ?_;clear no;exact ⟨q,cl,dd,y,(kk.at a cl dd y rfl z n).1,n⟩
  ·exact absurd rfl e
 ·refine bc fun no=> ?_
  obtain ⟨q,l,dd,y,e,r,z,m⟩:=I.core.fr env he;refine no ?_;clear no;exact ⟨q,l,dd,y,e,.inl (r.imp id fun r=>by rw [r];exact fun e=>nomatch e),(kk.at l _ dd y rfl z (fun e=>nomatch e)).1,m⟩
theorem vX{w:World}{A:Around}{E:Value→Shared→Prop}{s:Shared}{env:Env}{x:Sem Value}{Q:Flow→Shared→Prop}(hh:A.handled=none)
  (h:wpAny (model pw w) A x (fun v s₁=>∃e a0 dx,v= .ref e∧s₁.heap.get? 64=some sZ∧s₁.heap.get? e=some ⟨.ref 64,some dx,.fields #[a0,.none,.none,.none,.bool false,.none],#[]⟩∧E (.ref e) s₁) E s):
  wpAny (model pw w) A (raiseStmt env (some x) none) Q E s:=by
 have M9:(Value.ref 64::gw).contains (.type "BaseException")=true:=by decide
 unfold raiseStmt;refine wpAny_bind (wpAny_mono h (fun v s₁ h₁=> ?_) fun _ _ x=>x);refine bc fun no=> ?_;obtain ⟨e,a0,dx,rfl,hC,he,hE⟩:=h₁;obtain ⟨hp,g,d,tk,os⟩:=s₁;refine no ?_;clear no
 repeat (first|with_reducible refine wpAny_loadPart_at he ?_|with_reducible refine wpAny_loadPart_at hC ?_|(with_reducible refine wpAny_isSubtype_exc hC ?_;rw [M9])|wp_step)
 exact wpAny_raiseNew_none hh hE
theorem wm{c:Const}(h:yf c=true):c= .int 0:=by cases c<;>first|exact congrArg _ (beq_iff_eq.mp h)|exact nomatch h
section
variable{P:Fc→Prop}{r:ba}(R:aY P r){x:Cx}{n k:Nat}{c:Fc}{ns:ab}(hP:P c)(H:fW x n k c)(hN:aT c ns)
include R hP H hN
theorem yZ(e:Expr)(p:Pos):eD c (exec (.Raise (some e) none p) c.env) (vp r ns (.Raise (some e) none p)) (aU c):=by
 intro S lab s res S' hf I Q E hQ hE;have O:=H.ok;refine aH hf fun hb h9=> ?_;refine bc fun no=> ?_;obtain ⟨q,hq,hb⟩:=any_some hb;obtain ⟨a,ha,hb⟩:=any_some hb;obtain ⟨k0,MU,hb⟩:=any_some hb;obtain ⟨Mb,hg⟩:=Bool.and_eq_true_iff.mp hb;obtain ⟨hz,hx⟩:=Bool.and_eq_true_iff.mp Mb;obtain ⟨gp,Ty,rfl⟩:=iz hq;refine no ?_;clear no;rw [dU ha,jf MU,wm hz];rw [beq_iff_eq.mp hx] at hg ⊢;rw [arm_exec_Raise];refine wpAny_bind (wpAny_standAt (vX O.handled (wpAny_bind ?_)));rw [arm_eval_Call_Name'];refine wpAny_bind (wpAny_Name (dF O I (hN.glob "BadConfig" (beq_iff_eq.mp (Bool.and_eq_true_iff.mp hg).2)) (d:=.val (.ref 64)) (by kernel_rfl) fun v rv=> ?_) (by decide));obtain rfl:v=_:=aD.val' rv;have F:=iL c.x.w.params;simp only [Bool.and_eq_true,beq_iff_eq] at F;refine bG (by rfl) ?_;rw [bz (by rfl)];refine spliced_cons (wpAny_Constant_int (k:=k0.2.1) (pos:=k0.2.2) (spliced_nil ⟨cO (I.kf O) F.1.1.1.1.1.1, ?_⟩));have kt:Keeps s {s with toks:=s.toks+1}:=aw (s:=s) (s.toks+1);refine zt O (I.keeps kt) (by have:=H.depth;lia) (by have:=H.units;lia) fun ea a0 dx s' CP en eb ge=>wpAny_bind (wpAny_standAt (wpAny_pure ?_));refine bc fun no=> ?_;obtain ⟨lab',I',k',m',_⟩:=wN (I.keeps kt) CP;refine no ?_;clear no;have X':=I'.kf O;refine fX h9 fun e1 e2=>⟨ea,a0,dx,rfl,X' _ _ (pC _),ge,hE _ lab' s' e1 (e2▸I') k' ?_⟩;refine Co k' I'.core en (Nat.le_trans (bx (c:=c) I) eb) (fun env he q=> ?_) ge rfl rfl rfl rfl;refine bc fun no=> ?_;obtain ⟨_,L,d,y,e',_,⟨_,z,_⟩,_⟩:=I.core.fr env he;obtain rfl:ea=L:=Option.some.inj (q.symm.trans e');refine no ?_;clear no;exact nomatch (show s.heap.get? ea=none from en).symm.trans z
end
section
variable{P:Fc→Prop}{r:ba}(R:aY P r)(HX:lE P r)(HC:pF P r)(hZ:ic){x:Cx}{n k:Nat}{c:Fc}{ns:ab}(hP:P c)(H:fW x n k c)(hc:c.comp=false)(hN:aT c ns)(fn:au)
include R HX HC hZ hP H hc hN fn
theorem FG(st:Stmt):eD c (exec st c.env) (vp r ns st) (aU c):=by
 have no: ∀{st:Stmt},vp r ns st= .fail→eD c (exec st c.env) (vp r ns st) (aU c):=fun h S lab s res S' hf=>by rw [h] at hf;exact cg hf
 cases st with
 |Expr e p=>exact to R hP hc hN fn e p
 |Assign ts v p=>
  match ts with
  |[]=>exact no rfl
  |[t]=>exact vO R HC hP hc hN fn t v p
  |_::_::_=>exact no rfl
 |If t a b p=>exact Hv R HX hP hc hN fn t a b p
 |While t body els p=>
  match els with
  |[]=>exact yY R HX hP hc hN t body p
  |_::_=>exact no rfl
 |For target iter body els p=>
  match els with
  |[]=>exact EV R HX hP hc hN hZ target iter body p
  |_::_=>exact no rfl
 |Return e p=>
  match e with
  |some e=>exact EU R hP hc hN e p
  |none=>exact Bx R hP hc hN p
 |Raise e cc p=>
  match e,cc with
  |some e,none=>exact yZ R hP H hN e p
  |none,none=>exact no rfl
  |none,some _=>exact no rfl
  |some _,some _=>exact no rfl
 |Continue p=>exact By R hP hc hN p
 |_=>exact no rfl
end
theorem fW.less{x:Cx}{n k:Nat}{c:Fc}(H:fW x n (k+1) c):fW x n k c:=⟨H.cx,H.ok,H.depth,by have:=H.units;lia⟩
theorem n6{x:Cx}{n k:Nat}:qj (fW x n k):=fun c c' H O e1 e2 e3=>⟨e1.trans H.cx,O,by rw [e2];exact H.depth,by rw [e2];exact H.units⟩
theorem qA{x:Cx}{n k:Nat}(c:Fc)(G:Addr→Prop)(H:fW x n k c):fW x n k {c with G:=G}:=⟨H.cx,H.ok.withG G,H.depth,H.units⟩
theorem pg(hZ:ic){x:Cx}{n:Nat}(hF:cZ x (run n) n)(HH: ∀k r,aY (fW x n k) r→ix (fW x n k) (run n) r)(k:Nat):aY (fW x n k) (ah (run n) k)∧lE (fW x n k) (ah (run n) k):=by
 induction k with
 |zero=>
  refine ⟨⟨qA,fun c H=>H.ok, ?_, ?_⟩, ?_⟩
  ·intro c ns hP hN e S lab s res S' hf;exact nomatch hf
  ·intro c ns hP hN e S lab s res S' hf;exact nomatch hf
  ·intro c ns hP hc hN st S lab s res S' hf;exact nomatch hf
 |succ k ih=>
  obtain ⟨R,HX⟩:=ih;refine ⟨⟨qA,fun c H=>H.ok,fun c ns hP hN e=> ?_,fun c ns hP hN e=> ?_⟩,fun c ns hP hc hN st=> ?_⟩
  ·exact FI R n6 hF (zj n) (HH k _ R) hP.less hP hN e
  ·exact FH R hP.less hN e
  ·exact FG R HX (Cz R n6) hZ hP.less hP hc hN (run n) st
noncomputable def vg(x:Cx):Prop:=∀(c:Fc) (lab:ag) (s:Shared) (vs:List Value) (as:List V) (σ σ':Option Slot) (r:bH D),sX as σ=some (r,σ')→c.x=x→xb c.x→c.x.base.objs.size≤s.heap.objs.size→AR c.A c.outer 1→fV lab→ch c.x c.G lab c.outer s→bf c.x.w s.heap c.G lab σ→cD c s.heap lab vs as→
  ∀(R:Result→Shared→Prop),(∀v d lab' s',r= .ok d→aA c lab s σ' lab' s'→ei c s'.heap lab' v d→R (.ok (.ret v)) s')→codeAny (model pw c.x.w) c.A (.call (.ref 857) ⟨vs,[]⟩) R s
theorem AR.less{A:Around}{o:List Env}{n:Nat}(H:AR A o (n+1)):AR A o 1:=⟨H.handled,H.frames,H.guards,by have:=H.depth;lia,by have:=H.units;lia⟩
theorem z6(hZ:ic){x:Cx}(HW:vg x)(HH: ∀n k r,cZ x (run n) n→aY (fW x n k) r→ix (fW x n k) (run n) r)(n:Nat):cZ x (run n) n:=by
 induction n with
 |zero=>exact fun c lab s f vs as σ σ' r hf=>nomatch hf
 |succ n hF=>
  obtain ⟨R,HX⟩:=pg hZ hF (fun k r=>HH n k r hF) 60;intro c lab s f vs as σ σ' o hf hx X hb hA OS C sl rv Q hQ hE;refine iP hf (fun lx hf=> ?_) fun _ hf=>ae hf fun F hl hf=> ?_
  ·rw [lx]
   exact HW c lab s vs as σ σ' o hf hx X hb hA.less OS C sl rv Q hQ
  ·have hm:(f,F)∈eB:=List.mem_cons_of_mem _ (List.mem_cons_of_mem _ (List.mem_cons_of_mem _ (List.mem_cons_of_mem _ (mem_of_lookup _ _ _ hl))))
   exact vT R HX c lab s f F vs as σ σ' o hm hf hx X hb hA OS C sl rv Q hQ hE
noncomputable abbrev sy(h:Heap)(it t:Addr)(k:Nat):Prop:=h.get? it=some {cls:=.type "tuple_iterator",dict:=none,data:=.fields #[.ref t,.int k 0],slots:=#[]}
section
variable{w:World}{A:Around}{E:Value→Shared→Prop}{s:Shared}
theorem tH{it t:Addr}{k:Nat}{items:Array Value}{n:Nat}{x:Value}{Q:Value→Shared→Prop}(nj:sy s.heap it t k)(ht:s.heap.get? t=some ⟨.type "tuple",none,.seq items n,#[]⟩)(hx:items[k]? =some x)
  (hQ: ∀h',sy h' it t (k+1)→Heap.SameBut it s.heap h'→Q x {s with heap:=h'}):wpAny (model pw w) A (Builtin.SmallTypes.nextOf (.ref it)) Q E s:=by
 have hT:s.TypeIs (.ref it) "tuple_iterator":=⟨_,nj,rfl⟩;unfold Builtin.SmallTypes.nextOf;refine wpAny_bind (wpAny_callSpecial?_slot (name:=Str.ofString "__next__") hT PySem.F.slot_tuple_iterator_next
  (wpAny_call_entry PySem.F.slot_tuple_iterator_next hT PySem.F.entry_tuple_iterator_next ?_ (PySem.F.args_tuple_iterator_next_1 _)))
 show wpAny _ _ (field (.ref it) 0>>=_) _ _ s;refine wpAny_bind (wpAny_field nj rfl (x:=.ref t) rfl ?_);show wpAny _ _ (if (Value.ref t==Value.none)=true then _ else _) _ _ s;rw [if_neg (show ¬((Value.ref t==Value.none)=true) from Bool.false_ne_true)];show wpAny _ _ (field (.ref it) 1>>=_) _ _ s;refine wpAny_bind (wpAny_field nj rfl (x:=.int k 0) rfl ?_);show wpAny _ _ (seqItems? (.ref t)>>=_) _ _ s;refine wpAny_bind (wpAny_seqItems ht rfl ?_);simp only [Int.toNat_natCast,hx];refine wpAny_bind (wpAny_setField_rec nj (by simp) fun h' A1 iN=>wpAny_pure ⟨x,rfl,wpAny_pure (hQ h' ?_ iN)⟩);show h'.get? it=_;rw [A1];simp [rawInt]
theorem wb{it t:Addr}{k:Nat}{items:Array Value}{n:Nat}{Q:Value→Shared→Prop}(hh:A.handled=none)(nj:sy s.heap it t k)(ht:s.heap.get? t=some ⟨.type "tuple",none,.seq items n,#[]⟩)(hx:items[k]? =none)
  (hE: ∀h' e,Heap.ExtBut it s.heap h'→(∃o,h'.get? e=some o∧o.cls= .type "StopIteration")→E (.ref e) {s with heap:=h'}):wpAny (model pw w) A (Builtin.SmallTypes.nextOf (.ref it)) Q E s:=by
 have hT:s.TypeIs (.ref it) "tuple_iterator":=⟨_,nj,rfl⟩;unfold Builtin.SmallTypes.nextOf;refine wpAny_bind (wpAny_callSpecial?_slot (name:=Str.ofString "__next__") hT PySem.F.slot_tuple_iterator_next
  (wpAny_call_entry PySem.F.slot_tuple_iterator_next hT PySem.F.entry_tuple_iterator_next ?_ (PySem.F.args_tuple_iterator_next_1 _)))
 show wpAny _ _ (field (.ref it) 0>>=_) _ _ s;refine wpAny_bind (wpAny_field nj rfl (x:=.ref t) rfl ?_);show wpAny _ _ (if (Value.ref t==Value.none)=true then _ else _) _ _ s;rw [if_neg (show ¬((Value.ref t==Value.none)=true) from Bool.false_ne_true)];show wpAny _ _ (field (.ref it) 1>>=_) _ _ s;refine wpAny_bind (wpAny_field nj rfl (x:=.int k 0) rfl ?_);show wpAny _ _ (seqItems? (.ref t)>>=_) _ _ s;refine wpAny_bind (wpAny_seqItems ht rfl ?_);simp only [Int.toNat_natCast,hx];refine wpAny_bind (wpAny_rule (wpAny_bind (wpAny_setField_rec nj (by simp) fun h1 _ vj=> ?_)));show wpAny _ _ (newExc (.type "StopIteration") []>>=_) _ _ _;refine wpAny_bind ?_;simp only [newExc,newTuple];refine wpAny_bind (wpAny_newObj_type ?_ (by size_fits));refine wpAny_bind (m:=firstArgMember _ _) (wpAny_of_eq (a:=Value.none) (by first|rfl|(simp only [firstArgMember];rfl)) ?_);refine wpAny_newObj_type ?_ (by size_fits);simp only [raiseNew];refine wpAny_bind (wpAny_handled ?_)
 first|rw [show A.in1.handled=none from hh]|rw [hh]
 refine wpAny_bind (wpAny_pure (wpAny_throw ?_));exact hE _ _ ((vj.extBut.push _).push _) ⟨_,Heap.get?_push_size _ rfl,rfl⟩
structure uB(h:Heap)(z TI TO i1 i2 l1 l2:Addr)(k:Nat)(xs ys:Array Value)(n1 n2:Nat):Prop where
 z:IsZip h z TI TO .none
 TI:IsPair h TI (.ref i1) (.ref i2)
 TO: ∃a b,IsPair h TO a b
 i1:sy h i1 l1 k
 i2:h.IsListIter i2 l2 k
 l1:h.get? l1=some ⟨.type "tuple",none,.seq xs n1,#[]⟩
 l2:h.get? l2=some ⟨.type "list",none,.seq ys n2,#[]⟩
theorem vz{z TI TO i1 i2 l1 l2:Addr}{k:Nat}{xs ys:Array Value}{n1 n2:Nat}{x y:Value}{Q:Option Value→Shared→Prop}(D:ZipApart z TI TO i1 i2 l1 l2)(Z:uB s.heap z TI TO i1 i2 l1 l2 k xs ys n1 n2)(hx:xs[k]? =some x)(hy:ys[k]? =some y)
  (hQ: ∀h',IsZip h' z TI TO (rawInt s.heap.objs.size)→(∃a b,IsPair h' TO a b)→sy h' i1 l1 (k+1)→h'.IsListIter i2 l2 (k+1)→IsPair h' s.heap.objs.size x y→
   (∀c o,c≠z→c≠TO→c≠i1→c≠i2→s.heap.get? c=some o→h'.get? c=some o)→Q (some (.ref s.heap.objs.size)) {s with heap:=h'}):
  wpAny (model pw w) A (pyNext (.ref z)) Q E s:=by
 refine bc fun no=> ?_;obtain ⟨hz,hTI,⟨a,b,Ng⟩,h1,h2,nh,G6⟩:=Z;refine no ?_;clear no;have AL:s.heap.IsList l2 ys:=⟨_,G6,rfl,_,rfl⟩;have hT:s.TypeIs (.ref z) "zip":=⟨_,hz,rfl⟩;unfold pyNext;refine wpAny_bind (wpAny_attempt (wpAny_callSpecial?_slot (name:=Str.ofString "__next__") hT PySem.F.slot_zip_next (wpAny_call_entry PySem.F.slot_zip_next hT PySem.F.entry_zip_next ?_ (PySem.F.args_zip_next_1 _))));show wpAny _ _ (field (.ref z) 2>>=_) _ _ _;refine wpAny_bind (wpAny_field hz rfl (x:=.bool false) rfl ?_);show wpAny _ _ (field (.ref z) 3>>=_) _ _ _;refine wpAny_bind (wpAny_field hz rfl (x:=.ref TI) rfl (wpAny_bind (wpAny_seqItems hTI rfl ?_)));show wpAny _ _ (Builtin.SmallTypes.ownedTupleIsFree (.ref z)>>=_) _ _ _;refine wpAny_bind ?_;unfold Builtin.SmallTypes.ownedTupleIsFree;refine wpAny_bind (wpAny_field hz rfl (x:=.none) rfl (wpAny_pure ?_));simp only [if_true];refine wpAny_bind (wpAny_rule (wpAny_bind (wpAny_field hz rfl (x:=.ref TO) rfl (wpAny_bind (wpAny_setField_rec hz (by simp) fun ha D6 sa=> ?_)))));replace D6:IsZip ha z TI TO .ellipsis:=D6;refine wpAny_bind ?_;simp only [List.zipIdx_cons,List.zipIdx_nil,List.forIn_cons,List.forIn_nil];refine wpAny_bind (wpAny_bind (wpAny_onRaise ?_));show wpAny _ _ (Builtin.SmallTypes.nextOf (.ref i1)>>=_) _ _ _;refine wpAny_bind (tH (s:={s with heap:=ha}) (sa.extBut _ _ D.i1z h1) (sa.extBut _ _ D.l1z nh) hx fun hb SJ sb=>wpAny_pure ?_);have Hf:IsPair hb TO a b:=sb.extBut _ _ D.TOi1 (sa.extBut _ _ D.TOz Ng);refine wpAny_bind (wpAny_seqItems Hf rfl (wpAny_bind (wpAny_updateSeq_pair Hf fun hc EE sc=> ?_)));replace EE:IsPair hc TO x b:=EE;refine wpAny_bind (wpAny_letGo (wpAny_pure ?_));refine wpAny_bind (wpAny_bind (wpAny_onRaise ?_));show wpAny _ _ (Builtin.SmallTypes.nextOf (.ref i2)>>=_) _ _ _;refine wpAny_bind (wpAny_nextOf_list_item (((h2.extBut sa.extBut D.i2z).extBut sb.extBut D.i12.symm).extBut sc.extBut D.TOi2.symm)
  (((AL.extBut sa.extBut D.l2z).extBut sb.extBut D.l2i1).extBut sc.extBut D.l2TO) hy fun hd SH sd=>wpAny_pure ?_)
 have He:IsPair hd TO x b:=sd.extBut _ _ D.TOi2 EE;refine wpAny_bind (wpAny_seqItems He rfl (wpAny_bind (wpAny_updateSeq_pair He fun he A8 se=> ?_)));replace A8:IsPair he TO x y:=A8;refine wpAny_bind (wpAny_letGo (wpAny_pure (wpAny_pure (wpAny_bind (wpAny_seqItems A8 rfl (wpAny_bind (wpAny_newTuple ?_)))))));have gP:he.objs.size=s.heap.objs.size:=by rw [se.1,sd.1,sc.1,sb.1,sa.1]
 have Pr:IsZip he z TI TO .ellipsis:=se.extBut _ _ D.TOz.symm (sd.extBut _ _ D.i2z.symm (sc.extBut _ _ D.TOz.symm (sb.extBut _ _ D.i1z.symm D6)));have RF: ∀c o,c≠z→c≠TO→c≠i1→c≠i2→s.heap.get? c=some o→he.get? c=some o:=fun c o c1 c2 c3 c4 e=>
  se.extBut _ _ c2 (sd.extBut _ _ c4 (sc.extBut _ _ c2 (sb.extBut _ _ c3 (sa.extBut _ _ c1 e))))
 have SI:sy he i1 l1 (k+1):=se.extBut _ _ D.TOi1.symm (sd.extBut _ _ D.i12 (sc.extBut _ _ D.TOi1.symm SJ));have SG:he.IsListIter i2 l2 (k+1):=SH.extBut se.extBut D.TOi2.symm;have GW:z<he.objs.size:=Heap.lt_size Pr;show wpAny _ _ (Builtin.SmallTypes.ownedTupleHandOut (.ref z) (.ref he.objs.size)>>=_) _ _ _;refine wpAny_bind ?_;unfold Builtin.SmallTypes.ownedTupleHandOut;have Q4:IsZip (he.push {cls:=.type "tuple",data:=.seq #[x,y]}) z TI TO .ellipsis:=Heap.get?_push_of_some _ Pr;refine wpAny_bind (wpAny_setField_rec Q4 (by simp) fun hg ME sg=> ?_);replace ME:IsZip hg z TI TO (rawInt he.objs.size):=ME;refine wpAny_setField_rec ME (by simp) fun hi LV si=> ?_;replace LV:IsZip hi z TI TO (rawInt he.objs.size):=LV;have up: ∀c o,c≠z→he.get? c=some o→hi.get? c=some o:=fun c o c1 e=>si.extBut _ _ c1 (sg.extBut _ _ c1 (Heap.get?_push_of_some _ e));have PY:IsPair hi he.objs.size x y:=si.extBut _ _ (Nat.ne_of_gt GW) (sg.extBut _ _ (Nat.ne_of_gt GW) (Heap.get?_push_size _ rfl));rw [gP] at LV PY;refine wpAny_pure ⟨_,rfl,wpAny_pure ?_⟩;show Q (some (.ref he.objs.size)) _;rw [gP];exact hQ hi LV ⟨_,_,up _ _ D.TOz A8⟩ (up _ _ D.i1z SI) (SG.at fun o e=>up _ o D.i2z e) PY fun c o c1 c2 c3 c4 e=>up c o c1 (RF c o c1 c2 c3 c4 e)
theorem yO{z TI TO i1 i2 l1 l2:Addr}{k:Nat}{xs ys:Array Value}{n1 n2:Nat}{Q:Option Value→Shared→Prop}(hh:A.handled=none)(D:ZipApart z TI TO i1 i2 l1 l2)(Z:uB s.heap z TI TO i1 i2 l1 l2 k xs ys n1 n2)(hx:xs[k]? =none)
  (hQ: ∀h',(∀c o,c≠z→c≠i1→s.heap.get? c=some o→h'.get? c=some o)→Q none {s with heap:=h'}):wpAny (model pw w) A (pyNext (.ref z)) Q E s:=by
 refine bc fun no=> ?_;obtain ⟨hz,hTI,⟨a,b,Ng⟩,h1,h2,nh,G6⟩:=Z;refine no ?_;clear no;have hT:s.TypeIs (.ref z) "zip":=⟨_,hz,rfl⟩;unfold pyNext;refine wpAny_bind (wpAny_attempt (wpAny_callSpecial?_slot (name:=Str.ofString "__next__") hT PySem.F.slot_zip_next (wpAny_call_entry PySem.F.slot_zip_next hT PySem.F.entry_zip_next ?_ (PySem.F.args_zip_next_1 _))));show wpAny _ _ (field (.ref z) 2>>=_) _ _ _;refine wpAny_bind (wpAny_field hz rfl (x:=.bool false) rfl ?_);show wpAny _ _ (field (.ref z) 3>>=_) _ _ _;refine wpAny_bind (wpAny_field hz rfl (x:=.ref TI) rfl (wpAny_bind (wpAny_seqItems hTI rfl ?_)));show wpAny _ _ (Builtin.SmallTypes.ownedTupleIsFree (.ref z)>>=_) _ _ _;refine wpAny_bind ?_;unfold Builtin.SmallTypes.ownedTupleIsFree;refine wpAny_bind (wpAny_field hz rfl (x:=.none) rfl (wpAny_pure ?_));simp only [if_true];refine wpAny_bind (wpAny_rule (wpAny_bind (wpAny_field hz rfl (x:=.ref TO) rfl (wpAny_bind (wpAny_setField_rec hz (by simp) fun ha D6 sa=> ?_)))));replace D6:IsZip ha z TI TO .ellipsis:=D6;refine wpAny_bind ?_;simp only [List.zipIdx_cons,List.zipIdx_nil,List.forIn_cons,List.forIn_nil];refine wpAny_bind (wpAny_bind (wpAny_onRaise ?_));show wpAny _ _ (Builtin.SmallTypes.nextOf (.ref i1)>>=_) _ _ _;refine wpAny_bind (wb (s:={s with heap:=ha}) hh (sa.extBut _ _ D.i1z h1) (sa.extBut _ _ D.l1z nh) hx fun hb e sb he=> ?_);refine bc fun no=> ?_;obtain ⟨oe,MO,PU⟩:=he;refine no ?_;clear no;have Ps:IsZip hb z TI TO .ellipsis:=sb _ _ D.i1z.symm D6;have RQ:e≠z:=fun q=>by subst q;rw [Ps] at MO;cases MO;simp at PU
 refine wpAny_setField_rec Ps (by simp) fun hc _ sc=> ?_;have Ob:=sc.extBut _ _ RQ MO;refine wpAny_bind (wpAny_isInstance (T:="StopIteration") (b:=true) ⟨oe,Ob,PU⟩ isSubtype_stop ?_);exact wpAny_pure (hQ _ fun c o c1 c3 q=>sc.extBut _ _ c1 (sb _ _ c3 (sa.extBut _ _ c1 q)))
end
noncomputable abbrev LF(h:Heap)(l1:Addr):Heap:=h.push {cls:=.type "tuple_iterator",data:=.fields #[.ref l1,.int 0 0]}
noncomputable abbrev LE(h:Heap)(l1 l2:Addr):Heap:=(LF h l1).push {cls:=.type "list_iterator",data:=.fields #[.ref l2,.int 0 0]}
noncomputable abbrev LD(h:Heap)(l1 l2:Addr):Heap:=(LE h l1 l2).push {cls:=.type "tuple",data:=.seq #[.ref h.objs.size,.ref (LF h l1).objs.size]}
noncomputable abbrev LC(h:Heap)(l1 l2:Addr):Heap:=(LD h l1 l2).push {cls:=.type "tuple",data:=.seq #[.none,.none]}
noncomputable abbrev Ar(h:Heap)(l1 l2:Addr):Heap:=(LC h l1 l2).push {cls:=.type "zip",data:=.fields #[.none,.bool false,.bool false,.ref (LE h l1 l2).objs.size,.ref (LD h l1 l2).objs.size]}
theorem yN(l1 l2:Addr)(xs ys:Array Value):
  Meets (Builtin.«zip.__new__» ⟨[.type "zip",.ref l1,.ref l2],[]⟩) (fun _ R s=>s.heap.IsTuple l1 xs∧s.heap.IsList l2 ys∧
   R (.ok (.ret (.ref (LC s.heap l1 l2).objs.size))) {s with heap:=Ar s.heap l1 l2}):=
 .of_wp fun prog w A R s h=>by
  obtain ⟨hp,g,d,tk,os⟩:=s;obtain ⟨nh,AL,h⟩:=h;have nv:=sub_zip;have Su:Heap.IsTuple (Shared.heap ⟨hp,g,d,tk,os⟩) l1 xs:=nh;have Ss:Heap.IsList (Shared.heap ⟨hp.push {cls:=.type "tuple_iterator",data:=.fields #[.ref l1,.int 0 0]},g,d,tk,os⟩) l2 ys:=Heap.IsList.push AL _
  wp_walk using wpAny_pyIter_tuple Su,wpAny_pyIter_list Ss
  exact ⟨_,rfl,h⟩
theorem yP(l l':List D)(i:Nat)(d:D)(e:(oF l l')[i]? =some d): ∃x y,l[i]? =some x∧l'[i]? =some y∧d= .tup [x,y]:=by
 induction l generalizing l' i with
 |nil=>exact cg e
 |cons a r ih=>
  cases l' with
  |nil=>exact cg e
  |cons b q=>
   cases i with
   |zero=>exact ⟨a,b,rfl,rfl,(Option.some.inj e).symm⟩
   |succ i=>exact ih q i e
theorem rj(l l':List D)(e:l.length=l'.length):(oF l l').length=l.length:=by
 induction l generalizing l' with
 |nil=>rfl
 |cons a r ih=>
  cases l' with
  |nil=>exact nomatch e
  |cons b q=>exact congrArg (· +1) (ih q (Nat.succ.inj e))
structure rZ(c:Fc)(z TI TO i1 i2 l1 l2:Addr)(xs ys:Array Value)(n1 n2:Nat)(l l':List D)(k:Nat)(lab:ag)(h:Heap):Prop where
 it:uB h z TI TO i1 i2 l1 l2 k xs ys n1 n2
 base:c.x.base.objs.size≤z∧c.x.base.objs.size≤i1∧c.x.base.objs.size≤i2∧c.x.base.objs.size≤TO
 nz: ¬Rs c.G lab z
 nTI: ¬Rs c.G lab TI
 n1': ¬Rs c.G lab i1
 n2': ¬Rs c.G lab i2
 nl1: ¬Rs c.G lab l1
 nl2: ¬Rs c.G lab l2
 gTO:c.G TO
 lTO:lab TO=none
 r1:an h (Rs c.G lab) xs.toList l
 r2:an h (Rs c.G lab) ys.toList l'
noncomputable def W4(z TO i1 i2 b:Addr):Prop:=b=z∨b=TO∨b=i1∨b=i2
theorem W4.cases{z TO i1 i2:Addr}{P:Addr→Prop}(p1:P z)(p2:P TO)(p3:P i1)(p4:P i2)(b:Addr)(h:W4 z TO i1 i2 b):P b:=
 h.elim (fun e=>e▸p1) fun h=>h.elim (fun e=>e▸p2) fun h=>h.elim (fun e=>e▸p3) fun e=>e▸p4
theorem W4.no{z TO i1 i2 b:Addr}(n1:b≠z)(n2:b≠TO)(n3:b≠i1)(n4:b≠i2): ¬W4 z TO i1 i2 b:=fun h=>h.elim n1 fun h=>h.elim n2 fun h=>h.elim n3 n4
section
variable{c1:Fc}{z TI TO i1 i2 l1 l2:Addr}{xs ys:Array Value}{n1 n2:Nat}{l l':List D}{k:Nat}{lab:ag}{h:Heap}
theorem rZ.idle(st:rZ c1 z TI TO i1 i2 l1 l2 xs ys n1 n2 l l' k lab h){g h':Heap}{r:Value}{k':Nat}(q1:IsZip g z TI TO r)(q3: ∃a b,IsPair g TO a b)(q4:sy g i1 l1 k')(q5:g.IsListIter i2 l2 k')(hp: ∃a b,IsPair h' TO a b): ∀b,W4 z TO i1 i2 b→sz c1 lab g h' b:=by
 refine bc fun no=> ?_;obtain ⟨a',b',hp⟩:=hp;obtain ⟨a,b0,q3⟩:=q3;obtain ⟨o5,q5,F9,Ms⟩:=q5;obtain ⟨b1,b2,b3,b4⟩:=st.base;refine no ?_;clear no;exact W4.cases ⟨b1,c9 st.nz,.inl ⟨fun g=>st.nz (.inl g),_,_,q1,rfl,by simp⟩⟩ ⟨b4,st.lTO,.inr ⟨st.gTO,⟨_,_,_,.of q3,by simp,by simp,by simp⟩,_,_,_,.of hp,by simp⟩⟩
  ⟨b2,c9 st.n1',.inl ⟨fun g=>st.n1' (.inl g),_,_,q4,rfl,by simp⟩⟩ ⟨b3,c9 st.n2',.inl ⟨fun g=>st.n2' (.inl g),_,_,q5,Ms,by rw [F9];simp⟩⟩
theorem rZ.kept(st:rZ c1 z TI TO i1 i2 l1 l2 xs ys n1 n2 l l' k lab h){lab':ag}{h':Heap}(kk:Kept lab h lab' h'):rZ c1 z TI TO i1 i2 l1 l2 xs ys n1 n2 l l' k lab' h':=by
 refine bc fun no=> ?_;obtain ⟨⟨q1,q2,⟨a,b0,q3⟩,q4,⟨o5,q5,F9,Ms⟩,q6,q7⟩,hb,nz,nTI,m1,m2,nl1,nl2,gTO,lTO,r1,r2⟩:=st;refine no ?_;clear no;exact ⟨⟨kk.get (c9 nz) q1 (by simp) (by simp),kk.get (c9 nTI) q2 (by simp) (by simp),⟨a,b0,kk.get lTO q3 (by simp) (by simp)⟩,kk.get (c9 m1) q4 (by simp) (by simp),⟨o5,kk.get (c9 m2) q5 (by rw [F9];simp) (by rw [F9];simp),F9,Ms⟩,kk.get (c9 nl1) q6 (by simp) (by simp),kk.get (c9 nl2) q7 (by simp) (by simp)⟩,hb,
  eF kk q1 (by simp) nz,eF kk q2 (by simp) nTI,eF kk q4 (by simp) m1,eF kk q5 (by rw [F9];simp) m2,eF kk q6 (by simp) nl1,eF kk q7 (by simp) nl2,gTO,(kk TO _ lTO q3 (by simp)).2,kk.reps r1,kk.reps r2⟩
theorem rZ.next(st:rZ c1 z TI TO i1 i2 l1 l2 xs ys n1 n2 l l' k lab h){h':Heap}{k':Nat}(it:uB h' z TI TO i1 i2 l1 l2 k' xs ys n1 n2)(r1:an h' (Rs c1.G lab) xs.toList l)(r2:an h' (Rs c1.G lab) ys.toList l'):rZ c1 z TI TO i1 i2 l1 l2 xs ys n1 n2 l l' k' lab h':=
 ⟨it,st.base,st.nz,st.nTI,st.n1',st.n2',st.nl1,st.nl2,st.gTO,st.lTO,r1,r2⟩
theorem rZ.item(D:ZipApart z TI TO i1 i2 l1 l2){elts:List Expr}{kk:Nat}{tp:Pos}{S:St}{s:Shared}{d:Mine.D}{Q:Option Value→Shared→Prop}{E:Value→Shared→Prop}(hd:(oF l l')[k]? =some d)(Iv:Inv c1 lab S s)
  (st:rZ c1 z TI TO i1 i2 l1 l2 xs ys n1 n2 l l' k lab s.heap)
  (hQ: ∀v s',Inv c1 lab S s'→(∀b o,¬W4 z TO i1 i2 b→s.heap.get? b=some o→s'.heap.get? b=some o)→
   (∀(Q':Unit→Shared→Prop) (E':Value→Shared→Prop),(∀s'',Inv c1 lab S s''→(∀b o,¬W4 z TO i1 i2 b→s'.heap.get? b=some o→s''.heap.get? b=some o)→rZ c1 z TI TO i1 i2 l1 l2 xs ys n1 n2 l l' (k+1) lab s''.heap→ei c1 s''.heap lab v d→Q' () s'')→
    wpAny (model pw c1.x.w) c1.A (letOwnedTupleGo (.Tuple elts kk tp) (.ref z) v) Q' E' s')→Q (some v) s'):wpAny (model pw c1.x.w) c1.A (pyNext (.ref z)) Q E s:=by
 refine bc fun no=> ?_;obtain ⟨x,y,hx,hy,rfl⟩:=yP l l' k d hd;obtain ⟨xv,MG,rx⟩:=st.r1.get k x hx;obtain ⟨yv,MF,ry⟩:=st.r2.get k y hy;refine no ?_;clear no hd hx hy;rw [Array.getElem?_toList] at MG MF;refine vz D st.it MG MF fun h' g1 g2 g3 g4 g5 keep=> ?_;clear MG MF;have kw: ∀b o,¬W4 z TO i1 i2 b→s.heap.get? b=some o→h'.get? b=some o:=fun b o nb q=>keep b o (fun e=>nb (.inl e)) (fun e=>nb (.inr (.inl e))) (fun e=>nb (.inr (.inr (.inl e)))) (fun e=>nb (.inr (.inr (.inr e)))) q;have iw:=st.idle st.it.z st.it.TO st.it.i1 st.it.i2 g2;have SY:=kw _ _ (W4.no D.TIz D.TITO D.TIi1 D.TIi2) st.it.TI;have Q0:=kw _ _ (W4.no D.l1z D.l1TO D.l1i1 D.l1i2) st.it.l1;have QZ:=kw _ _ (W4.no D.l2z D.l2TO D.l2i1 D.l2i2) st.it.l2;have r1:=cI kw iw st.r1;have r2:=cI kw iw st.r2;have QD:=el kw iw rx;have QC:=el kw iw ry;have I1:Inv c1 lab S {s with heap:=h'}:=Iv.touchW (t:=s.toks) kw iw;refine hQ _ _ I1 kw fun Q' E' hq=> ?_;have Qo:=Heap.lt_size st.it.z;clear hQ kw iw rx ry keep;refine wpAny_letOwnedTupleGo_zip g1 fun Eg e1 e2=> ?_;have kz: ∀b o,b≠z→h'.get? b=some o→Eg.get? b=some o:=fun b o nb q=>(e2.2 b nb).trans q;have rU: ∀b o,¬W4 z TO i1 i2 b→h'.get? b=some o→Eg.get? b=some o:=fun b o nb=>kz b o fun e=>nb (.inl e);have P9: ∃a b,IsPair Eg TO a b:=g2.elim fun a g2=>g2.elim fun b g2=>⟨a,b,kz _ _ D.TOz g2⟩;have AH:=st.idle g1 g2 g3 g4 P9;exact hq _ (I1.touchW (s:={s with heap:=h'}) (t:=s.toks) rU AH) rU
  (st.next ⟨e1,kz _ _ D.TIz SY,P9,kz _ _ D.i1z g3,g4.at fun o e=>kz _ o D.i2z e,kz _ _ D.l1z Q0,kz _ _ D.l2z QZ⟩ (cI (s:={s with heap:=h'}) rU AH r1) (cI (s:={s with heap:=h'}) rU AH r2))
  (.tup _ _ _ _ (.of (kz _ _ (Nat.ne_of_gt Qo) g5)) (Iv.core.new (Nat.le_refl _)) (.cons _ _ _ _ (el (s:={s with heap:=h'}) rU AH QD) (.cons _ _ _ _ (el (s:={s with heap:=h'}) rU AH QC) .nil)))
theorem rZ.last(hh:c1.A.handled=none)(D:ZipApart z TI TO i1 i2 l1 l2)(hk:k=l.length){S:St}{s:Shared}{Q:Option Value→Shared→Prop}{E:Value→Shared→Prop}(Iv:Inv c1 lab S s)(st:rZ c1 z TI TO i1 i2 l1 l2 xs ys n1 n2 l l' k lab s.heap)
  (hQ: ∀h',(∃a b,IsPair h' TO a b)→Inv c1 lab S {s with heap:=h'}→(∀b o,¬W4 z TO i1 i2 b→s.heap.get? b=some o→h'.get? b=some o)→Q none {s with heap:=h'}):wpAny (model pw c1.x.w) c1.A (pyNext (.ref z)) Q E s:=by
 have aP:=st.r1.length;rw [Array.length_toList] at aP;refine yO hh D st.it (by rw [hk, ←aP];simp) fun h' keep=> ?_;have kw: ∀b o,¬W4 z TO i1 i2 b→s.heap.get? b=some o→h'.get? b=some o:=fun b o nb q=>keep b o (fun e=>nb (.inl e)) (fun e=>nb (.inr (.inr (.inl e)))) q;have hp: ∃a b,IsPair h' TO a b:=st.it.TO.elim fun a g2=>g2.elim fun b g2=>⟨a,b,keep _ _ D.TOz D.TOi1 g2⟩;exact hQ h' hp (Iv.touchW (t:=s.toks) kw (st.idle st.it.z st.it.TO st.it.i1 st.it.i2 hp)) kw
end
theorem iS.zip{c:Fc}(hh:c.A.handled=none){elts:List Expr}{kk:Nat}{tp:Pos}{z TI TO i1 i2 l1 l2:Addr}{xs ys:Array Value}{n1 n2:Nat}{l l':List D}(D:ZipApart z TI TO i1 i2 l1 l2)(hl:l.length=l'.length)(Ng: ¬c.G TO):
  iS c (withG c (eN c.G (· =TO))) (.Tuple elts kk tp) z (oF l l') (fun b=>b=z∨b=TO∨b=i1∨b=i2) (rZ (withG c (eN c.G (· =TO))) z TI TO i1 i2 l1 l2 xs ys n1 n2 l l'):=
 ⟨fun i lab h lab' h' k st=>st.kept k,fun i lab S s d Q E hd Iv st hQ=>st.item D hd Iv hQ,fun lab S s Q E Iv st hQ=>rZ.last (c1:=withG c (eN c.G (· =TO))) hh D (rj _ _ hl) Iv st fun h' hp I1 kw=>hQ _ (Inv.letGoN (c:=c) I1 fun b e=>by
   refine bc fun no=> ?_;obtain ⟨x,y,hp⟩:=hp;refine no ?_;exact e▸⟨_,_,_,.of hp,by simp,by simp⟩) kw,fun i lab s Q E st hQ=>wpAny_pyIter_zip st.it.z hQ,fun i lab S s Iv st=>Iv.letGoN fun b e=>by
   refine bc fun no=> ?_;obtain ⟨x,y,hp⟩:=st.it.TO;refine no ?_;exact e▸⟨_,_,_,.of hp,by simp,by simp⟩,fun _ h=>.inl h,fun hW=>absurd (show (withG c (eN c.G (· =TO))).G TO from .inr rfl) (hW TO (.inr (.inl rfl)))⟩
theorem Qp{n l1 l2:Nat}(h1:l1<n)(h2:l2<n):ZipApart (n+4) (n+2) (n+3) n (n+1) l1 l2:=
 ⟨(show (n+2:Nat)≠n+4 by lia),(show (n+3:Nat)≠n+4 by lia),(show (n:Nat)≠n+4 by lia),(show (n+1:Nat)≠n+4 by lia),(show (n+2:Nat)≠n+3 by lia),(show (n+2:Nat)≠n by lia),(show (n+2:Nat)≠n+1 by lia),(show (n+3:Nat)≠n by lia),(show (n+3:Nat)≠n+1 by lia),(show (n:Nat)≠n+1 by lia),(show (l1:Nat)≠n+4 by lia),(show (l1:Nat)≠n+3 by lia),(show (l1:Nat)≠n by lia),(show (l1:Nat)≠n+1 by lia),(show (l2:Nat)≠n+4 by lia),(show (l2:Nat)≠n+3 by lia),(show (l2:Nat)≠n by lia),(show (l2:Nat)≠n+1 by lia)⟩
theorem EK:ic:=by
 intro c lab S s a b l l' elts k tp Q E hh I ra rb Tt aP hQ
 cases ra with
 |tup l1 xs _ n1 a1 a2 a3=>
 cases rb with
 |lst l2 ys _ n2 b1 b2 b3=>
 have t1:s.heap.IsTuple l1 xs:=⟨_,a1.exact,rfl,_,rfl⟩;have t2:s.heap.IsList l2 ys:=⟨_,b1.exact,rfl,_,rfl⟩;refine callType_new PySem.F.called_zip (by decide) (PySem.F.typeCall_zip_2 _ _) (PySem.F.newCall_zip_2 _ _) (fun obj=>PySem.F.args_object_init_3 obj _ _) PySem.F.entry_zip_new (yN l1 l2 xs ys) ⟨t1,t2, ?_⟩;have z1:(LF s.heap l1).objs.size=s.heap.objs.size+1:=Heap.size_push ..;have z2:(LE s.heap l1 l2).objs.size=s.heap.objs.size+2:=by rw [Heap.size_push,z1]
 have z3:(LD s.heap l1 l2).objs.size=s.heap.objs.size+3:=by rw [Heap.size_push,z2]
 have z4:(LC s.heap l1 l2).objs.size=s.heap.objs.size+4:=by rw [Heap.size_push,z3]
 have g5:(Ar s.heap l1 l2).get? (LC s.heap l1 l2).objs.size=some _:=Heap.get?_push_size _ rfl;have g4:(Ar s.heap l1 l2).get? (LD s.heap l1 l2).objs.size=some _:=Heap.get?_push_of_some _ (Heap.get?_push_size _ rfl);have g3:(Ar s.heap l1 l2).get? (LE s.heap l1 l2).objs.size=some _:=Heap.get?_push_of_some _ (Heap.get?_push_of_some _ (Heap.get?_push_size _ rfl));have g2:(Ar s.heap l1 l2).get? (LF s.heap l1).objs.size=some _:=Heap.get?_push_of_some _ (Heap.get?_push_of_some _ (Heap.get?_push_of_some _ (Heap.get?_push_size _ rfl)));have g1:(Ar s.heap l1 l2).get? s.heap.objs.size=some _:=Heap.get?_push_of_some _ (Heap.get?_push_of_some _ (Heap.get?_push_of_some _ (Heap.get?_push_of_some _ (Heap.get?_push_size _ rfl))));have kp: ∀b o,s.heap.get? b=some o→(Ar s.heap l1 l2).get? b=some o:=fun b o e=>
  Heap.get?_push_of_some _ (Heap.get?_push_of_some _ (Heap.get?_push_of_some _ (Heap.get?_push_of_some _ (Heap.get?_push_of_some _ e))))
 show _∧_;rw [z2,z3,z4] at g5;rw [z1,z2] at g3;rw [z3] at g4;rw [z1] at g2;rw [z4];refine ⟨⟨_,g5,rfl⟩, ?_⟩;have QV:=a1.lt;have QU:=b1.lt;have hb:=bx (c:=c) I;have D:ZipApart (s.heap.objs.size+4) (s.heap.objs.size+2) (s.heap.objs.size+3) s.heap.objs.size (s.heap.objs.size+1) l1 l2:=Qp QV QU;have pY: ∀n,s.heap.objs.size≤n→¬Rs c.G lab n:=fun n h=>I.core.new h;have K:Keeps s {s with heap:=Ar s.heap l1 l2}:=⟨_,s.toks,rfl,kp⟩;have I1:Inv (withG c (eN c.G (· =s.heap.objs.size+3))) lab S {s with heap:=Ar s.heap l1 l2}:=I.reserveN K fun a e=>by
  subst e;exact ⟨Nat.le_add_right _ 3,_,_,_,.of g4,by simp⟩
 have D3: ∀n,n≠s.heap.objs.size+3→¬Rs c.G lab n→¬Rs (eN c.G (· =s.heap.objs.size+3)) lab n:=fun n h1 h2 z=>by
  rcases z with (z|z)|z
  ·exact h2 (.inl z)
  ·exact h1 z
  ·exact h2 (.inr z)
 have Pi: ∀{vs ds},an s.heap (Rs c.G lab) vs ds→an (Ar s.heap l1 l2) (Rs (eN c.G (· =s.heap.objs.size+3)) lab) vs ds:=fun r=>r.mono fun a _ _ _ n q _=>⟨q.keep kp,D3 a (Nat.ne_of_lt (Nat.lt_of_lt_of_le q.lt (Nat.le_add_right _ 3))) n⟩;refine wpAny_pyIter_zip g5 ?_;refine hQ _ _ _ _ lab _ I1 (iS.zip hh D (l:=l) (l':=l') (xs:=xs) (ys:=ys) (n1:=n1) (n2:=n2) aP fun g=>pY _ (Nat.le_add_right _ 3) (.inl g)) ⟨⟨g5,g3,⟨_,_,g4⟩,g1,⟨_,g2,rfl,rfl⟩,kp _ _ a1.exact,kp _ _ b1.exact⟩,⟨Nat.le_trans hb (Nat.le_add_right _ 4),hb,Nat.le_trans hb (Nat.le_succ _),Nat.le_trans hb (Nat.le_add_right _ 3)⟩,
  D3 _ (Ne.symm D.TOz) (pY _ (Nat.le_add_right _ 4)),D3 _ D.TITO (pY _ (Nat.le_add_right _ 2)),D3 _ (Ne.symm D.TOi1) (pY _ (Nat.le_refl _)),D3 _ (Ne.symm D.TOi2) (pY _ (Nat.le_succ _)),D3 _ D.l1TO a2,D3 _ D.l2TO b2,.inr rfl, ?_,Pi a3,Pi b3⟩
  lab s (Kept.refl _ _) (fun b e=>by rcases e with rfl|rfl|rfl|rfl;exact Nat.le_add_right _ 4;exact Nat.le_add_right _ 3;exact Nat.le_refl _;exact Nat.le_succ _) (.of_keeps kp) (.refl _)
 cases q:lab (s.heap.objs.size+3) with
 |none=>rfl
 |some L=>exact absurd (.inr (by rw [q];exact fun e=>nomatch e)) (pY _ (Nat.le_add_right _ 3))
theorem mR{v v':Value}:(([("cells",v),("mixed",v')]:List (Str×Value)).map (·.1)).Nodup:=by
 show ([("cells":Str),("mixed":Str)]:List Str).Nodup
 decide
section
variable{c:Fc}{lab:ag}{S:St}{s:Shared}(O:dq c)(I:Inv c lab S s){cells:List Int}{am:Int}(hσ:S.σ=some (.deck cells am))
include I hσ
theorem u5: ∃dx v u,lab dx=some .sobj∧s.heap.DictOf (strKind pw c.x.w) dx [("cells",v),("mixed",.int am u)]∧(∃es n,At s.heap dx (.type "dict") none (.dict es n))∧bZ s.heap c.G lab (.fld "cells") v (cells.map .int):=by
 have gQ:=I.slot;rw [hσ] at gQ;refine bc fun no=> ?_;obtain ⟨dx,es,n,v,u,h1,h2,⟨h3,SE⟩,_,h5,_⟩:=gQ;refine no ?_;clear no;exact ⟨dx,v,u,h1,⟨_,es,n,h2.exact,⟨rfl,rfl,rfl⟩,rfl,h3,SE,mR⟩,⟨es,n,h2⟩,h5⟩
include O
theorem qW(hρ:S.ρ.lookup ("deck":Str)=some .ptr){key:Str}{val:Value→Tok→Value}(hv: ∀v u,valueAt [(("cells":Str),v),("mixed",.int am u)] key=some (val v u)){p1 p2 p3:Pos}{k:Nat}{Q:Value→Shared→Prop}{E:Value→Shared→Prop}
  (hQ: ∀v u s',Inv c lab S s'→Kept lab s.heap lab s'.heap→bZ s'.heap c.G lab (.fld "cells") v (cells.map .int)→Q (val v u) s'):
  wpAny (model pw c.x.w) c.A (eval (.Subscript (.Name "deck" p1) (.Constant (.str key) k p2) p3) c.env) Q E s:=by
 refine Subscript_ (wpAny_Name (bI O I hρ fun pv rp=> ?_) (by decide));refine bc fun no=> ?_;obtain ⟨dx,rfl,AM⟩:=rp;refine no ?_;clear no;have t1:Keeps s {s with toks:=s.toks+1}:=aw (s:=s) (s.toks+1);have t2:Keeps s {s with toks:=s.toks+1+1}:=aw (s:=s) (s.toks+1+1);refine Calls.Constant_str ?_;refine bc fun no=> ?_;obtain ⟨Nq,v,u,g1,g2,⟨es,n,g3⟩,g4⟩:=u5 (I.keeps t1) hσ;obtain rfl:dx=Nq:=I.core.inj _ _ _ AM g1;refine no ?_;clear no;exact tail_any (ops:=[.ref dx,.str key s.toks]) g2.mapOf.typeIs slot_dict_getitem.lookup (wpAny_getItem_of (knd:=strKind pw c.x.w) (strKind_is pw c.x.w _ _) g2.mapOf (hv v u) (hQ v u _ (I.keeps t2) (.of_keeps (al t2)) g4)) rfl
theorem mT(hρ:S.ρ.lookup ("deck":Str)=some .ptr){p1 p2 p3:Pos}{k:Nat}{Q:Value→Shared→Prop}{E:Value→Shared→Prop}
  (hQ: ∀v s',Inv c lab S s'→Kept lab s.heap lab s'.heap→bZ s'.heap c.G lab (.fld "cells") v (cells.map .int)→Q v s'):
  wpAny (model pw c.x.w) c.A (eval (.Subscript (.Name "deck" p1) (.Constant (.str "cells") k p2) p3) c.env) Q E s:=
 qW O I hσ hρ (val:=fun v _=>v) (fun v u=>rfl) fun v u s'=>hQ v s'
theorem mS(hρ:S.ρ.lookup ("deck":Str)=some .ptr){p1 p2 p3:Pos}{k:Nat}{Q:Value→Shared→Prop}{E:Value→Shared→Prop}
  (hQ: ∀u s',Inv c lab S s'→Kept lab s.heap lab s'.heap→Q (.int am u) s'):
  wpAny (model pw c.x.w) c.A (eval (.Subscript (.Name "deck" p1) (.Constant (.str "mixed") k p2) p3) c.env) Q E s:=
 qW O I hσ hρ (val:=fun _ u=>.int am u) (fun v u=>rfl) fun v u s' h1 h2 _=>hQ u s' h1 h2
omit O
theorem t5{a:Addr}(hl:lab a=some (.fld "cells")){cells':List Int}{h':Heap}{t:Nat}(hs:Heap.SameBut a s.heap h'){vs:Array Value}{n:Nat}
  (ha:At h' a (.type "list") none (.seq vs n)) (r:an h' (Rs c.G lab) vs.toList (cells'.map .int)):Inv c lab {S with σ:=some (.deck cells' am)} {s with heap:=h',toks:=t}∧Kept lab s.heap lab h':=by
 refine ⟨?_,bL hl hs⟩;refine bc fun no=> ?_;obtain ⟨dx,es,m,v,u,g1,g2,g3,g4,g5,g6⟩:bf c.x.w s.heap c.G lab (some (.deck cells am)):=hσ▸I.slot;obtain ⟨a0,LS,n0,rfl,rV,Ay,r0⟩:=g5;obtain rfl:a=a0:=I.core.inj _ _ _ hl rV;refine no ?_;clear no;refine ⟨I.core.same hl hs ha (fun e=>nomatch e) (fun vs e=>nomatch e) (fun c' d' y' q=>(Ay.same q).1) (fun _ _ _ q=>.inr (by rw [← (Ay.same q).2.2];intro vs e;exact nomatch e)),I.isFrame, ?_,fun y m e q=> ?_,fun hc y e=> ?_, ?_⟩
 ·refine bc fun no=> ?_
  obtain ⟨cl,es,nn,h1,h2,h3,h4⟩:=I.frame;refine no ?_;clear no;exact ⟨cl,es,nn,aR hl hs h1 (by rw [I.isFrame];exact fun e=>nomatch e),h2,h3,fun y m e q=>let ⟨v,h5,h6⟩:=h4 y m e q;⟨v,h5,bQ hl hs h6 (fun e=>nomatch e)⟩⟩
 ·refine bc fun no=> ?_
  obtain ⟨k1,b,v,k2,k3,k4,k5,k6⟩:=I.cells y m e q;refine no ?_;clear no;refine ⟨k1,b,v,k2,k3,k4,aR hl hs k5 ?_,bQ hl hs k6 (fun e=>nomatch e)⟩
  cases lh:c.comp with
  |true=>rw [I.core.disj b (k3 lh)];exact fun e=>nomatch e
  |false=>rw [k4 lh];exact fun e=>nomatch e
 ·refine bc fun no=> ?_
  obtain ⟨b,v,k1,k2,k3⟩:=I.bare hc y e;refine no ?_;clear no;exact ⟨b,v,k1,k2,aR hl hs k3 (by rw [k2];exact fun e=>nomatch e)⟩
 ·exact ⟨dx,es,m,_,u,g1,aR hl hs g2 (by rw [g1];exact fun e=>nomatch e),g3,trivial,⟨a,vs,n,rfl,hl,ha,r⟩,trivial⟩
theorem t6{dx:Addr}(hl:lab dx=some .sobj){mixed':Int}{v:Value}{u:Tok}{h':Heap}{t:Nat}(hs:Heap.SameBut dx s.heap h')(hv:bZ s.heap c.G lab (.fld "cells") v (cells.map .int))(hd:h'.DictOf (strKind pw c.x.w) dx [("cells",v),("mixed",.int mixed' u)]):
  Inv c lab {S with σ:=some (.deck cells mixed')} {s with heap:=h',toks:=t}∧Kept lab s.heap lab h':=by
 refine ⟨?_,bL hl hs⟩;refine bc fun no=> ?_;obtain ⟨o,oE,n',ho,hx,GF,Av,Gx,MQ⟩:=hd;have kS:At h' dx (.type "dict") none (.dict oE n'):=by
  obtain ⟨oc,od,Pf,Pe⟩:=o;obtain ⟨rfl,rfl,rfl⟩:=hx
  cases GF
  exact .of ho
 obtain ⟨ST,es,m,v0,u0,g1,g2,g3,g4,g5,g6⟩:bf c.x.w s.heap c.G lab (some (.deck cells am)):=hσ▸I.slot;obtain rfl:dx=ST:=I.core.inj _ _ _ hl g1;refine no ?_;clear no;refine ⟨I.core.same hl hs kS (fun e=>nomatch e) (fun vs e=>nomatch e) (fun c' d' y' q=>(g2.same q).1) (fun _ _ _ q=>.inr (by rw [← (g2.same q).2.2];intro vs e;exact nomatch e)),I.isFrame, ?_,fun y m e q=> ?_,fun hc y e=> ?_, ?_⟩
 ·refine bc fun no=> ?_
  obtain ⟨cl,es,nn,h1,h2,h3,h4⟩:=I.frame;refine no ?_;clear no;exact ⟨cl,es,nn,aR hl hs h1 (by rw [I.isFrame];exact fun e=>nomatch e),h2,h3,fun y m e q=>let ⟨v,h5,h6⟩:=h4 y m e q;⟨v,h5,bQ hl hs h6 (fun e=>nomatch e)⟩⟩
 ·refine bc fun no=> ?_
  obtain ⟨k1,b,v,k2,k3,k4,k5,k6⟩:=I.cells y m e q;refine no ?_;clear no;refine ⟨k1,b,v,k2,k3,k4,aR hl hs k5 ?_,bQ hl hs k6 (fun e=>nomatch e)⟩
  cases lh:c.comp with
  |true=>rw [I.core.disj b (k3 lh)];exact fun e=>nomatch e
  |false=>rw [k4 lh];exact fun e=>nomatch e
 ·refine bc fun no=> ?_
  obtain ⟨b,v,k1,k2,k3⟩:=I.bare hc y e;refine no ?_;clear no;exact ⟨b,v,k1,k2,aR hl hs k3 (by rw [k2];exact fun e=>nomatch e)⟩
 ·refine bc fun no=> ?_
  obtain ⟨a,vs,n,rfl,Au,ha,r⟩:=hv;refine no ?_;clear no;exact ⟨dx,oE,n',_,u,hl,kS,⟨Av,Gx⟩,trivial,⟨a,vs,n,rfl,Au,aR hl hs ha (by rw [Au];exact fun e=>nomatch e),(bL hl hs).reps r⟩,trivial⟩
end
theorem tA(l:List Int):gV (l.map .int)=some (l.map .int):=by
 induction l with
 |nil=>rfl
 |cons i l ih=>
  show (D.int i).py.bind (fun p=>(gV (l.map .int)).map (p:: ·))=_;rw [ih];rfl
theorem zw(l:List Int):PyData.canLayAll0 (l.map .int)=true:=by
 induction l with
 |nil=>rfl
 |cons _ l ih=>exact ih
theorem t4(l:List Int):PyData.depthAll (l.map .int)=0:=by
 induction l with
 |nil=>rfl
 |cons _ l ih=>
  show max 0 (PyData.depthAll (l.map .int))=0;rw [ih];rfl
theorem FK(cells:List Int):gR .NotEq (.lst (cells.map .int)) (.lst [])=some (!cells.isEmpty):=by
 have h1:(D.lst (cells.map .int)).py=some (.list (cells.map .int)):=by
  show (gV (cells.map .int)).map PyData.list=_;rw [tA];rfl
 have h2:(D.lst []).py=some (.list []):=rfl;show (AA (D0 (.lst (cells.map .int)) (.lst []) AP) _).map (!·)=_;unfold D0;rw [h1,h2];show (AA (AP (.list (cells.map .int)) (.list [])) _).map (!·)=_;have h3:AP (.list (cells.map .int)) (.list [])= (if fK (.list (cells.map .int))&&fK (.list []) then some (PyData.eqv (.list (cells.map .int)) (.list [])) else none):=rfl;have h4:fK (.list (cells.map .int))=true:=by
  unfold fK;rw [show (PyData.list (cells.map .int)).canLay0=PyData.canLayAll0 (cells.map .int) from rfl,zw,show (PyData.list (cells.map .int)).depth=PyData.depthAll (cells.map .int)+1 from rfl,t4];rfl
 rw [h3,h4,if_pos (by rfl)]
 cases cells with
 |nil=>rfl
 |cons c r=>rfl
theorem jq{h:Heap}{M:Addr→Prop}{v:Value}{i:Int}(r:aD h M v (.int i)): ∃t,v= .int i t:=r.int'
theorem tZ{α:Type}(l:List α):l.eraseIdx (l.length - 1)=l.dropLast:=by
 induction l with
 |nil=>rfl
 |cons a l ih=>cases l with
  |nil=>rfl
  |cons b r=>exact congrArg (a:: ·) ih
theorem zK{v:V}(h:v.isPtr=true):v= .ptr:=by cases v<;>first|rfl|exact nomatch h
theorem qF:bq (bg 63)= [("deck":Str),("many":Str)]:=by kernel_rfl
theorem wy{cE:Fc}(O:dq cE)(hu:cE.A.units≤6000){many am:Int}{cells:List Int}(PF:0<many)(LW:0≤am)(Pv:am<2147483647)(ur:cells.length≤1000){lab1:ag}{s1:Shared}{Q:Flow→Shared→Prop}{E:Value→Shared→Prop}
  (I:Inv cE lab1 ⟨[((("deck":Str),Loc.ptr):Str×Loc),(("many":Str),Loc.d (.int many))],some (.deck cells am)⟩ s1)
  (sq: ∀{be:ag} {s2:Shared} {S2:St} {v:Value} {M:Addr→Prop},Inv cE be S2 s2→Kept lab1 s1.heap be s2.heap→bN lab1 be→aD s2.heap M v (.int (dX many cells am).1)→S2.σ=some (dX many cells am).2→Q (.ret v) s2):
  wpAny (model pw cE.x.w) cE.A (execs (ak (bg 63)) cE.env) Q E s1:=by
 obtain ⟨l,hl⟩: ∃l,l=ak (bg 63):=⟨_,rfl⟩;have rW:=hl
 conv at hl=>rhs;unfold bg pw;whnf
 rw [←rW,hl];clear hl rW;refine wpAny_execs_cons (wpAny_If (wpAny_isTrue_Compare1 (mT O I rfl rfl fun v s2 I2 k2 NF=> ?_) (by rfl)));refine bc fun no=> ?_;obtain ⟨a,items,n,rfl,Au,kS,rr⟩:=NF;refine no ?_;clear no;refine wpAny_List_spliced (spliced_nil ⟨Nat.zero_le _, ?_⟩);have K3:Keeps s2 {s2 with heap:=s2.heap.push {cls:=.type "list",data:=.seq ([]:List Value).toArray}}:=ce _;have I3:=I2.keeps K3;have MT:=al K3;have ra:aD (s2.heap.push {cls:=.type "list",data:=.seq ([]:List Value).toArray}) (fun _=>False) (.ref a) (.lst (cells.map .int)):=
  .lst a items _ n (kS.keep MT) id ((rr.mono fun _ _ _ _ _ q _=>⟨q,id⟩).keeps MT)
 have rb:aD (s2.heap.push {cls:=.type "list",data:=.seq ([]:List Value).toArray}) (fun _=>False) (.ref s2.heap.objs.size) (.lst []):=.lst _ _ _ 0 (.of (Heap.get?_push_size _ rfl)) id .nil;refine lc (s:={s2 with heap:=s2.heap.push {cls:=.type "list",data:=.seq ([]:List Value).toArray}}) (FK cells) ra rb hu (wpAny_truthy_bool ?_);have k3:Kept lab1 s1.heap lab1 (s2.heap.push {cls:=.type "list",data:=.seq ([]:List Value).toArray}):=k2.trans (.of_keeps MT);generalize Rl:({s2 with heap:=s2.heap.push {cls:=.type "list",data:=.seq ([]:List Value).toArray}}:Shared)=s3 at*;replace k3:Kept lab1 s1.heap lab1 s3.heap:=by rw [←Rl];exact k3
 cases hg:cells.getLast? with
 |some cl=>
  have RW:dX many cells am= (cl.fmod many,.deck cells.dropLast am):=by unfold dX;rw [hg];rfl
  rw [RW] at sq;have kO:(!cells.isEmpty)=true:=by
   cases cells with
   |nil=>exact nomatch hg
   |cons _ _=>rfl
  rw [kO,if_pos rfl];refine wpAny_execs_cons (wpAny_Return_some (wpAny_BinOp (d4 (args:=[]) (by rfl) (Nat.zero_le _) rfl (mT O I3 rfl rfl fun v s4 I4 k4 NE=> ?_))));refine bc fun no=> ?_;obtain ⟨b,eS,n4,rfl,Ea,A5,Mr⟩:=NE;refine no ?_;clear no;intro pl;refine getMethod_builtin ⟨_,A5.exact,rfl⟩ PySem.F.plainAttrs_list PySem.F.slot_list_pop PySem.F.type_list_pop (fun a' e=>by injection e with e;exact e▸⟨_,A5.exact,rfl⟩) ?_;have De:=Mr.length;rw [Array.length_toList,List.length_map] at De;have gP:eS.size≤sizeLine:=by rw [De,sizeLine_eq];lia
  have GZ:0<cells.length:=by
   cases cells with
   |nil=>exact nomatch hg
   |cons _ _=>simp
  refine bc fun no=> ?_;obtain ⟨y,hy,ry⟩:=Mr.get (eS.size - 1) (.int cl) (by
   rw [De,List.getElem?_map, ←List.getLast?_eq_getElem?,hg];rfl)
  rw [Array.getElem?_toList] at hy;obtain ⟨ty,rfl⟩:=jq ry;refine no ?_;clear no;refine PySem.P.pop_list A5.exact hy ?_ gP;refine bc fun no=> ?_;obtain ⟨u1,n',u2⟩:=eZ A5.exact fun xs=>xs.eraseIdxIfInBounds (eS.size - 1);have e1:(eS.eraseIdxIfInBounds (eS.size - 1)).toList=eS.toList.dropLast:=by
   obtain ⟨li⟩:=eS;simp only [List.eraseIdxIfInBounds_toArray,List.size_toArray];exact tZ li
  have r5:an (s4.heap.update b (Obj.mapSeq fun xs=>xs.eraseIdxIfInBounds (eS.size - 1))) (Rs cE.G lab1) (eS.eraseIdxIfInBounds (eS.size - 1)).toList (cells.dropLast.map .int):=by
   have e2:(cells.dropLast.map D.int)= (cells.map D.int).take (eS.size - 1):=by rw [List.map_dropLast,List.dropLast_eq_take,List.length_map,De]
   rw [e1,List.dropLast_eq_take,Array.length_toList,e2];exact (bL Ea u1).reps (Mr.take _)
  obtain ⟨I5,k5⟩:=t5 I4 rfl Ea (cells':=cells.dropLast) u1 (t:=s4.toks) u2 r5;refine no ?_;clear no;refine wpAny_Name (bI O I5 (x:="many") (l:=.d (.int many)) rfl fun mv rm=> ?_) (by decide);refine bc fun no=> ?_;obtain ⟨tm,rfl⟩:=jq rm;refine no ?_;clear no;refine mod_int' (by lia) ?_;have kt: ∀(sx:Shared),Keeps sx {sx with toks:=sx.toks+1}:=fun sx=>aw (s:=sx) (sx.toks+1);exact sq (M:=fun _=>False) (I5.keeps (kt _)) ((k3.trans k4).trans (k5.trans (.of_keeps fun b o e=>e))) (bN.refl _) (.int _ _) rfl
 |none=>
  obtain rfl:cells= []:=List.getLast?_eq_none_iff.mp hg;rw [show dX many [] am= ((((am*16807+11).fmod 2147483647).fdiv 64).fmod many,Slot.deck [] ((am*16807+11).fmod 2147483647)) from rfl] at sq;rw [show (!([]:List Int).isEmpty)=false from rfl,if_neg Bool.false_ne_true];refine wpAny_execs_nil ?_;dsimp only;have kt: ∀(sx:Shared),Keeps sx {sx with toks:=sx.toks+1}:=fun sx=>aw (s:=sx) (sx.toks+1);have QT:IntMulOk am 16807:=qJ (by unfold un;rw [show decide (Builtin.Int.intBits 16807≤64)=true from by decide+kernel,Bool.or_true]);generalize GB:(am*16807+11).fmod 2147483647=m' at sq ⊢;have Tv:0≤m':=by rw [←GB];exact Int.fmod_nonneg_of_pos _ (by decide)
  have Tu:m'<2147483647:=by rw [←GB];exact Int.fmod_lt_of_pos _ (by decide)
  refine wpAny_execs_cons (wpAny_Assign_Subscript (wpAny_BinOp (wpAny_BinOp (wpAny_BinOp (mS O I3 rfl rfl fun u s4 I4 k4=>wpAny_Constant_int (PySem.P.mul_int (wpAny_Constant_int (PySem.P.add_int (wpAny_Constant_int (mod_int' (by decide) ?_)))) QT))))) rfl);have tk: ∀(sx:Shared) (n:Nat),Keeps sx {sx with toks:=n}:=fun sx n=>aw (s:=sx) n;generalize Py:({s4 with toks:=s4.toks+1+1+1+1+1+1}:Shared)=s5;have I5:Inv cE lab1 ⟨[((("deck":Str),Loc.ptr):Str×Loc),(("many":Str),Loc.d (.int many))],some (.deck [] am)⟩ s5:=by rw [←Py];exact I4.keeps (tk _ _)
  have k5:Kept lab1 s4.heap lab1 s5.heap:=by rw [←Py];exact .of_keeps fun b o e=>e
  refine wpAny_Name (bI O I5 (x:="deck") (l:=.ptr) rfl fun pv rp=> ?_) (by decide);refine bc fun no=> ?_;obtain ⟨dx,rfl,AM⟩:=rp;refine no ?_;clear no;refine Calls.Constant_str ?_;have I6:=I5.keeps (tk s5 (s5.toks+1));refine bc fun no=> ?_;obtain ⟨Nq,v,u',g1,g2,g3,g4⟩:=u5 I6 rfl;obtain rfl:dx=Nq:=I5.core.inj _ _ _ AM g1;refine no ?_;clear no;refine wpAny_setItem_pairs (knd:=strKind pw cE.x.w) (strKind_is pw cE.x.w _ _) g2 (fun h' pR iN=> ?_) (by rw [sizeLine_eq];exact Nat.le_of_ble_eq_true rfl);rw [GB] at pR;have em: ∀y,stored [(("cells":Str),v),(("mixed":Str),Value.int am u')] ("mixed":Str) y= [(("cells":Str),v),(("mixed":Str),y)]:=fun y=>rfl;rw [em] at pR;obtain ⟨I7,k7⟩:=t6 (mixed':=m') (t:=s5.toks+1+1) I6 rfl AM iN g4 pR;dsimp only;refine wpAny_execs_cons (wpAny_Return_some (wpAny_BinOp (wpAny_BinOp (mS O I7 rfl rfl fun u8 s8 I8 k8=>wpAny_Constant_int (floordiv_int (by decide) ?_ (.inl (PyProof.noPylong_small (by decide))))))));refine wpAny_Name (bI O (I8.keeps (tk s8 (s8.toks+1+1))) (x:="many") (l:=.d (.int many)) rfl fun mv rm=> ?_) (by decide);refine bc fun no=> ?_;obtain ⟨tm,rfl⟩:=jq rm;refine no ?_;clear no;refine mod_int' (by lia) ?_;exact sq (M:=fun _=>False) (I8.keeps (tk s8 (s8.toks+1+1+1))) (((((k3.trans k4).trans k5).trans (.of_keeps fun b o e=>e)).trans k7).trans (k8.trans (.of_keeps fun b o e=>e))) (bN.refl _) (.int _ _) rfl
theorem Ct(x:Cx):vg x:=by
 intro c lab s vs as σ σ' r hf hx X hb hA OS C sl rv R hR;refine ae hf fun p hp hf=>aH hf fun GY hf=>ae hf fun d hd hf=>ae hf fun many DB hf=>ae hf fun TE hσ hf=>ae hf fun q hq hf=>aH hf fun hc h9=> ?_;refine bc fun no=> ?_;obtain ⟨cells,am⟩:=q;obtain rfl:as= [.ptr,.d (.int many)]:=(iF hp).trans (by rw [zK GY,nH hd,ia DB]);obtain rfl:σ=some (.deck cells am):=hσ.trans (congrArg some (vQ hq));have hr:r= .ok (.int (dX many cells am).1):=(congrArg Prod.fst (Option.some.inj h9)).symm;have MD:some (dX many cells am).2=σ':=congrArg Prod.snd (Option.some.inj h9);clear h9 hp GY hd DB hσ hq;obtain ⟨PF,TV,LW,Pv,ur⟩:=hc;refine no ?_;clear no;replace LW:0≤am:=LW;replace ur:cells.length≤1000:=ur
 cases rv with
 |cons va _ vr _ r1 r2=>
 cases r2 with
 |cons vb _ vr _ r2 r3=>
 cases r3
 have mF:((857:Addr),(⟨bg 63,[]⟩:dj))∈eB:=List.mem_cons_of_mem _ (List.mem_cons_of_mem _ List.mem_cons_self);refine fP (F:=⟨bg 63,[]⟩) mF X hA.handled hA.frames hA.guards (by have:=hA.depth;lia) (by have:=hA.units;lia) OS C sl hb (.cons _ _ _ _ r1 (.cons _ _ _ _ r2 .nil)) (by unfold gS;dsimp only;rw [qF];rfl) fun fd L lab1 s1 hL O N I k m=> ?_;have D5:ej ⟨bg 63,[]⟩ [.ptr,.d (.int many)]= [((("deck":Str),Loc.ptr):Str×Loc),(("many":Str),Loc.d (.int many))]:=by
  unfold ej;dsimp only;rw [qF];rfl
 rw [D5] at I;refine wy O (Nat.le_trans O.units (by decide)) PF LW Pv ur I fun I2 k2 m2 rr e2=> ?_;refine bc fun no=> ?_;obtain ⟨CP,rp⟩:=sR C OS I2 (k.trans k2) (m.trans m2);refine no ?_;clear no;rw [e2,MD] at CP rp;refine hR _ _ _ _ hr CP ?_;refine bc fun no=> ?_;obtain ⟨t,rfl⟩:=jq rr;refine no ?_;clear no;exact .int _ _
theorem gJ{M:Model}{A:Around}{E:Value→Shared→Prop}{env:Env}{l2:List Stmt}{Q:Flow→Shared→Prop}(l1:List Stmt)(s:Shared)(h:wpAny M A (execs l1 env) (fun f s'=>f= .next∧wpAny M A (execs l2 env) Q E s') E s):wpAny M A (execs (l1++l2) env) Q E s:=
 fun Γ p hΓ=>gA _ _ _ _ (Sem.wp_mono M Γ _ (fun f p' s' h'=>⟨h'.1,h'.2 Γ p' hΓ⟩) (fun _ _ _ h'=>h') _ _ (h Γ p hΓ))
theorem Inv.dropSlots{c:Fc}{lab:ag}{S:St}{s:Shared}(I:Inv c lab S s)(hσ:S.σ=none)(hn: ∀x l,S.ρ.lookup x=some l→l≠ .ptr):Inv c (aW (fun l=> !l.ofSlot) lab) S s∧Kept lab s.heap (aW (fun l=> !l.ofSlot) lab) s.heap:=by
 have AI: ∀b,Rs c.G (aW (fun l=> !l.ofSlot) lab) b→Rs c.G lab b:=fun b z=>z.imp id fun z e=>z (aB fun l e'=>by rw [e] at e';cases e');have kr: ∀{v d},aD s.heap (Rs c.G lab) v d→aD s.heap (Rs c.G (aW (fun l=> !l.ofSlot) lab)) v d:=fun r=>r.mono fun b _ _ _ n q _=>⟨q,fun z=>n (AI b z)⟩;have Gv: ∀{v d},an s.heap (Rs c.G lab) v d→an s.heap (Rs c.G (aW (fun l=> !l.ofSlot) lab)) v d:=fun r=>r.mono fun b _ _ _ n q _=>⟨q,fun z=>n (AI b z)⟩;have kl: ∀{x v l},l≠ .ptr→bp s.heap c.G lab x v l→bp s.heap c.G (aW (fun l=> !l.ofSlot) lab) x v l:=fun {x v l} hl r=>by
  cases l with
  |d d=>exact kr r
  |own l=>
   obtain ⟨a,vs,n,e,Au,ha,rr⟩:=r;exact ⟨a,vs,n,e,aq.mpr ⟨Au,rfl⟩,ha,Gv rr⟩
  |ptr=>exact absurd rfl hl
 refine ⟨⟨⟨I.core.old,I.core.os,I.core.gens,fun b e=>I.core.res b (AI b e),fun env he=> ?_,fun b b' l e e'=>I.core.inj b b' l (aq.mp e).1 (aq.mp e').1,(fun b e=>aB fun l e'=>by rw [I.core.disj b e] at e';cases e'),I.core.tab⟩,aq.mpr ⟨I.isFrame,rfl⟩, ?_,fun x l e q=> ?_,fun hc x e=> ?_,by rw [hσ];trivial⟩,
  fun a o e q z=>⟨⟨o.slots,q,fun _=>rfl⟩,aB fun l e'=>by rw [e] at e';cases e'⟩⟩
 ·obtain ⟨q,l,d,y,e,r,z⟩:=I.core.fr env he
  exact ⟨q,l,d,y,e,r.imp id fun r=>aq.mpr ⟨r,rfl⟩,z⟩
 ·obtain ⟨cl,es,n,h1,h2,h3,h4⟩:=I.frame
  exact ⟨cl,es,n,h1,h2,h3,fun x l e q=>let ⟨v,h5,h6⟩:=h4 x l e q;⟨v,h5,kl (hn x l e) h6⟩⟩
 ·obtain ⟨k1,b,v,k2,k3,k4,k5,k6⟩:=I.cells x l e q
  exact ⟨k1,b,v,k2,k3,fun hc=>aq.mpr ⟨k4 hc,rfl⟩,k5,kl (hn x l e) k6⟩
 ·obtain ⟨b,v,k1,k2,k3⟩:=I.bare hc x e
  exact ⟨b,v,k1,aq.mpr ⟨k2,rfl⟩,k3⟩
theorem qG:bq (bg 62)= [("script":Str)]:=by kernel_rfl
theorem pH{h h':Heap}{M M':Addr→Prop}{vs:List Value}{l:List Int}(r:an h M vs (l.map .int)):an h' M' vs (l.map .int):=by
 induction l generalizing vs with
 |nil=>rw [r.nil'];exact .nil
 |cons i l ih=>
  obtain ⟨v,vs,rfl,r1,q⟩:=an.cons' (d:=.int i) (ds:=l.map .int) r;obtain ⟨t,rfl⟩:=r1.int';exact .cons _ _ _ _ (.int _ _) (ih q)
noncomputable def u6(d l:Addr):ag:=fun b=>if b=d then some .sobj else if b=l then some (.fld "cells") else none
theorem gz{d l b:Addr}{L:cP}(h:u6 d l b=some L):(b=d∧L= .sobj)∨(b=l∧L= .fld "cells"):=iP h (fun h1 h=>.inl ⟨h1,(Option.some.inj h).symm⟩) fun _ h=>aH h fun h1 h=>.inr ⟨h1,(Option.some.inj h).symm⟩
inductive yM(w:World)(G:Addr→Prop)(be:ag)(h2 h':Heap)(cells:List Int)(am:Int):Prop where
 |mk (es:Array DictEntry) (ep:Nat) (tm:Tok) (vs:Array Value) (h3:Heap) (kp: ∀b o,h2.get? b=some o→h'.get? b=some o) (hD:At h' h2.objs.size (.type "dict") none (.dict es ep))
  (hk:KeysOf (strKind pw w) es∧Pairs (strKind pw w) es.toList [("cells",.ref (h2.objs.size+2)),("mixed",.int am tm)]) (hL:At h' (h2.objs.size+2) (.type "list") none (.seq vs.toList.reverse.toArray 0)) (hr:an h3 (Rs G be) vs.toList (cells.map .int))
theorem wB{cE:Fc}(O:dq cE){cells:List Int}{am:Int}{S2:St}{be:ag}{s2:Shared}(I2:Inv cE be S2 s2)(hc:S2.ρ.lookup ("cells":Str)=some (.d (.lst (cells.map .int))))(hm:S2.ρ.lookup ("mixed":Str)=some (.d (.int am)))(nk:cells.length≤1000)
  {Q:Flow→Shared→Prop} {E:Value→Shared→Prop} (hQ: ∀h' F5,yM cE.x.w cE.G be s2.heap h' cells am→Q (.ret (.ref s2.heap.objs.size)) {s2 with heap:=h',toks:=F5}):
  wpAny (model pw cE.x.w) cE.A (execs ((ak (bg 62)).drop 2) cE.env) Q E s2:=by
 obtain ⟨l2,hl⟩: ∃l2,l2= (ak (bg 62)).drop 2:=⟨_,rfl⟩;have rW:=hl
 conv at hl=>rhs;unfold bg pw;whnf
 rw [←rW,hl];clear hl rW;refine wpAny_execs_cons (wpAny_Return_some ?_);refine wpAny_Dict_pairs (knd:=strKind pw cE.x.w) (qx cE.env _ _ _ _ (by rfl)) (fun e=> ?_) ?_ ?_
 ·have:=congrArg List.length e;exact nomatch this
 ·exact Nat.le_of_ble_eq_true rfl
 have Kd:Keeps s2 {s2 with heap:=s2.heap.push {cls:=.type "dict",data:=.dict #[]}}:=ce _;have tk: ∀(sx:Shared) (n:Nat),Keeps sx {sx with toks:=n}:=fun sx n=>aw (s:=sx) n;have I3:=I2.keeps Kd;refine evalPairs_cons (Calls.Constant_str (wpAny_bind (Subscript_ (wpAny_Name (bI O (I3.keeps (tk _ (s2.toks+1))) hc fun cv rc=> ?_) (by decide)))));have QI:aD (s2.heap.push {cls:=.type "dict",data:=.dict #[]}) (Rs cE.G be) cv (.lst (cells.map .int)):=rc;refine bc fun no=> ?_;obtain ⟨a,items,nn,rfl,kS,rr⟩: ∃a items nn,cv= .ref a∧At (s2.heap.push {cls:=.type "dict",data:=.dict #[]}) a (.type "list") none (.seq items nn)∧an (s2.heap.push {cls:=.type "dict",data:=.dict #[]}) (Rs cE.G be) items.toList (cells.map .int):=by
  obtain ⟨a,items,nn,e,q1,q2,q3⟩:=QI.lst';exact ⟨a,items,nn,e,q1,q3⟩
 refine no ?_;clear no;have aP:=rr.length;rw [Array.length_toList,List.length_map] at aP;have gP:items.size≤sizeLine:=by rw [aP,sizeLine_eq];lia
 have nh:(s2.heap.push {cls:=.type "dict",data:=.dict #[]}).IsList a items:=⟨_,kS.exact,rfl,nn,rfl⟩;refine wpAny_Slice (evalPart_none_step (evalPart_none_step (evalPart_some_step (wpAny_UnaryOp (wpAny_Constant_int (PySem.P.neg_int ?_))))));generalize Nl:s2.heap.push {cls:=.type "dict",data:=.dict #[]}=H3 at*;have Sz:At H3 s2.heap.objs.size (.type "dict") none (.dict #[] 0):=by rw [←Nl];exact .of (Heap.get?_push_size _ rfl)
 have Qx:H3.objs.size=s2.heap.objs.size+1:=by rw [←Nl];exact Heap.size_push ..
 refine tail_any (ops:=[.ref a,.ref H3.objs.size]) (Heap.IsList.typeIs (nh.push _)) list_getitem_lookup (wpAny_getItem_list_slice (nh.push _) (Heap.IsSliceOf.new ..) .none .none (.int (-1) _) (by decide) ?_ gP) rfl;rw [krv_pick];refine wpAny_bind (wpAny_standAt (wpAny_pure ?_));generalize P5:(H3.push {cls:=.type "slice",data:=.fields #[.none,.none,.int (-1) (s2.toks+1+1)]}).push {cls:=.type "list",data:=.seq items.toList.reverse.toArray}=H5;have Mx: ∀b o,H3.get? b=some o→H5.get? b=some o:=fun b o e=>by rw [←P5];exact Heap.get?_push_of_some _ (Heap.get?_push_of_some _ e)
 have Pm: ∀b o,s2.heap.get? b=some o→H3.get? b=some o:=fun b o e=>by rw [←Nl];exact Heap.get?_push_of_some _ e
 have O4:(H3.push {cls:=.type "slice",data:=.fields #[.none,.none,.int (-1) (s2.toks+1+1)]}).objs.size=s2.heap.objs.size+2:=by rw [Heap.size_push,Qx]
 have Sr:At H5 (s2.heap.objs.size+2) (.type "list") none (.seq items.toList.reverse.toArray 0):=by
  rw [←P5, ←O4];exact .of (Heap.get?_push_size _ rfl)
 have K5:Keeps s2 {s2 with heap:=H5,toks:=s2.toks+1+1+1+1}:=⟨H5,_,rfl,fun b o e=>Mx b o (Pm b o e)⟩;have I5:=I2.keeps K5;refine evalPairs_cons (Calls.Constant_str (wpAny_bind (wpAny_Name (bI O I5 hm fun mv rm=> ?_) (by decide))));refine bc fun no=> ?_;obtain ⟨tm,rfl⟩:=jq rm;refine no ?_;clear no;refine wpAny_bind (wpAny_standAt (wpAny_pure (evalPairs_nil ?_)));rw [O4];refine ⟨[(("cells":Str),.ref (s2.heap.objs.size+2)),(("mixed":Str),.int am tm)],kK (ks:=[("cells":Str),("mixed":Str)]) (vals:=[.ref (s2.heap.objs.size+2),.int am tm]) (.cons _ _ _ (.cons _ _ _ .nil)), ?_,fun h' pR iN=> ?_⟩
 ·exact ⟨_,#[],0,(Sz.keep Mx).exact,⟨rfl,rfl,rfl⟩,rfl,(fun e he=>by simp at he),.nil,List.nodup_nil⟩
 rw [merged_nil_of_nodup _ mR] at pR;refine bc fun no=> ?_;obtain ⟨o,es,ep,ho,Q5,GF,Av,Gx,MQ⟩:=pR;refine no ?_;clear no;have A4:At h' s2.heap.objs.size (.type "dict") none (.dict es ep):=by
  refine bc fun no=> ?_;obtain ⟨oc,od,Pf,Pe⟩:=o;obtain ⟨rfl,rfl,rfl⟩:=Q5;refine no ?_;clear no
  cases GF
  exact .of ho
 have LT: ∀b o,s2.heap.get? b=some o→h'.get? b=some o:=fun b o e=>(iN.2 b (Nat.ne_of_lt (Heap.lt_size e))).trans (Mx b o (Pm b o e));have A3:At h' (s2.heap.objs.size+2) (.type "list") none (.seq items.toList.reverse.toArray 0):=by
  refine bc fun no=> ?_;obtain ⟨sl,q1,q2⟩:=Sr;refine no ?_;clear no;exact ⟨sl,(iN.2 _ (Nat.ne_of_gt (Nat.lt_add_of_pos_right (by decide)))).trans q1,q2⟩
 exact hQ h' _ ⟨es,ep,tm,items,H3,LT,A4,⟨Av,Gx⟩,A3,rr⟩
theorem wz{c:Fc}{s:Shared}(C:ch c.x c.G (fun _=>none) c.outer s){e0:Env}{be:ag}{s2:Shared}{h':Heap}{F5:Nat}(C2:ch c.x c.G be (e0::c.outer) s2)(Mb:c.x.base.objs.size≤s2.heap.objs.size)(kk:Kept (fun _=>none) s.heap be s2.heap)
  {cells:List Int} {am:Int} (dk:yM c.x.w c.G be s2.heap h' cells am):aA c (fun _=>none) s (some (.deck cells.reverse am)) (u6 s2.heap.objs.size (s2.heap.objs.size+2)) {s2 with heap:=h',toks:=F5}:=by
 obtain ⟨es,ep,tm,items,H3,LT,A4,Av,A3,rr⟩:=dk;have CF:ch c.x c.G be (e0::c.outer) {s2 with heap:=h',toks:=F5}:=C2.keeps ⟨h',F5,rfl,LT⟩;have fresh: ∀a,c.G a→a<s2.heap.objs.size:=fun a g=>by
  obtain ⟨_,_,_,_,q,_⟩:=C2.res a (.inl g);exact q.lt
 refine ⟨⟨CF.old,CF.os,CF.gens,fun b e=> ?_,fun env he=> ?_,fun b b' l' e e'=> ?_,fun b g=> ?_,CF.tab⟩, ?_,fun b o _ q z=> ?_,(fun _ b e=>nomatch e),fun b l' e=> ?_⟩
 ·by_cases h1:b=s2.heap.objs.size
  ·subst h1;exact ⟨Mb,_,_,_,A4,fun e=>nomatch e⟩
  ·by_cases h2:b=s2.heap.objs.size+2
   ·subst h2;exact ⟨Nat.le_trans Mb (Nat.le_add_right _ 2),_,_,_,A3,fun e=>nomatch e⟩
   ·rcases e with g|e
    ·exact CF.res b (.inl g)
    ·exact absurd ((if_neg h1).trans (if_neg h2)) e
 ·refine bc fun no=> ?_
  obtain ⟨q,L',d,y,e,r,z,mm⟩:=CF.fr env (List.mem_cons_of_mem _ he);obtain ⟨_,L2,_,_,e2,r2,_⟩:=C.fr env he;refine no ?_;clear no;rw [e] at e2;cases e2;exact ⟨q,L',d,y,e,.inl (r2.elim id fun q=>nomatch q),z,mm⟩
 ·exact (gz e).elim (fun p=>(gz e').elim (fun q=>p.1.trans q.1.symm) fun q=>nomatch p.2.symm.trans q.2) fun p=>(gz e').elim (fun q=>nomatch p.2.symm.trans q.2) fun q=>p.1.trans q.1.symm
 ·have:=fresh b g
  exact (if_neg (Nat.ne_of_lt this)).trans (if_neg (Nat.ne_of_lt (Nat.lt_of_lt_of_le this (Nat.le_add_right _ 2))))
 ·refine ⟨s2.heap.objs.size,es,ep,_,tm,if_pos rfl,A4,Av,trivial,⟨_,_,0,rfl, ?_,A3, ?_⟩,trivial⟩
  ·exact (if_neg (Nat.ne_of_gt (Nat.lt_add_of_pos_right (by decide)))).trans (if_pos rfl)
  ·rw [List.map_reverse]
   exact an.reverse (pH rr)
 ·refine bc fun no=> ?_
  obtain ⟨⟨sl,q1,q2⟩,q3⟩:=kk b o rfl q z;refine no ?_;clear no;refine ⟨⟨sl,LT _ _ q1,q2⟩, ?_⟩;have:=Heap.lt_size q1;exact (if_neg (Nat.ne_of_lt this)).trans (if_neg (Nat.ne_of_lt (Nat.lt_of_lt_of_le this (Nat.le_add_right _ 2))))
 ·exact (gz e).elim (fun p=>p.2▸⟨rfl,rfl⟩) fun p=>p.2▸⟨rfl,rfl⟩
theorem wA{x:Cx}{n:Nat}{r:ba}(HR:aY (fW x n 60) r)(HX:lE (fW x n 60) r){c:Fc}{s:Shared}(hx:c.x=x)(X:xb c.x)(hb:c.x.base.objs.size≤s.heap.objs.size)(hA:AR c.A c.outer (n+1))(C:ch c.x c.G (fun _=>none) c.outer s)
  {v:Value} {l:List Int} (rv:aD s.heap (Rs c.G (fun _=>none)) v (.lst (l.map .int))) {S2:St} {cells:List Int} {am:Int} (pX:lj r (ai (bg 62)).names ((ak (bg 62)).take 2) ⟨[((("script":Str),Loc.d (.lst (l.map .int))):Str×Loc)],none⟩=some (.ok .next,S2))
  (hc:S2.ρ.lookup ("cells":Str)=some (.d (.lst (cells.map .int)))) (hm:S2.ρ.lookup ("mixed":Str)=some (.d (.int am))) (nk:cells.length≤1000) {R:Result→Shared→Prop}
  (hR: ∀D Ez s',aA c (fun _=>none) s (some (.deck cells.reverse am)) Ez s'→Ez D=some .sobj→R (.ok (.ret (.ref D))) s'):codeAny (model pw c.x.w) c.A (.call (.ref 850) ⟨[v],[]⟩) R s:=by
 have mF:((850:Addr),(⟨bg 62,[]⟩:dj))∈eB:=List.mem_cons_of_mem _ List.mem_cons_self;refine fP (c:=c) (lab:=fun _=>none) (F:=⟨bg 62,[]⟩) (as:=[.d (.lst (l.map .int))]) (σ:=none) mF X hA.handled hA.frames hA.guards (Nat.le_trans (Nat.le_add_right _ _) (Nat.le_trans hA.depth (by decide))) (Nat.le_trans (Nat.le_add_right _ _) (Nat.le_trans hA.units (by decide))) (fun _ _ e=>nomatch e) C trivial hb (.cons _ _ _ _ rv .nil) (by unfold gS;dsimp only;rw [qG];rfl) fun fd L lab1 s1 hL O N I k m=> ?_;have D5:ej ⟨bg 62,[]⟩ [.d (.lst (l.map .int))]= [((("script":Str),Loc.d (.lst (l.map .int))):Str×Loc)]:=by
  unfold ej;dsimp only;rw [qG];rfl
 rw [D5] at I;obtain ⟨Nu,Nt⟩:=qR hA.depth hA.units;have hP:fW x n 60 (ff c fd L 850):=⟨hx,O,Nu,Nt⟩;have gW:ak (⟨bg 62,[]⟩:dj).st= (ak (bg 62)).take 2++ (ak (bg 62)).drop 2:=(List.take_append_drop 2 _).symm;rw [gW];refine gJ _ _ (i5 HR HX hP rfl N ((ak (bg 62)).take 2) _ lab1 s1 _ _ pX I _ _ (fun f fl be s2 e I2 k2 m2 r2=> ?_) (fun e lab' s' q=>nomatch q))
 cases e
 cases f<;>first|exact r2.elim|skip
 refine ⟨rfl, ?_⟩;exact wB O I2 hc hm nk fun h' F5 dk=>hR _ _ _ (wz C I2.core (bx (c:=ff c fd L 850) I2) (k.trans k2) dk) (if_pos rfl)
noncomputable def pE:Prop:=∀(ns:List Int),ns.length≤63→∃(cells:List Int) (am:Int) (S2 S3:St),cells.length≤1000∧
 lj (ah (run 8) 60) (ai (bg 62)).names ((ak (bg 62)).take 2) ⟨[((("script":Str),Loc.d (.lst (ns.map .int))):Str×Loc)],none⟩=some (.ok .next,S2)∧
 S2.ρ.lookup ("cells":Str)=some (.d (.lst (cells.map .int)))∧S2.ρ.lookup ("mixed":Str)=some (.d (.int am))∧
 lj (ah (run 9) 60) (ai (bg 77)).names ((ak (bg 77)).drop 1) ⟨[((("script":Str),Loc.d (.lst (ns.map .int))):Str×Loc),(("deck":Str),.ptr)],some (.deck cells.reverse am)⟩=some (.ok (.ret (.bool true)),S3)
theorem qD:bq (bg 77)= [("script":Str)]:=by kernel_rfl
theorem wo{h:Heap}{M:Addr→Prop}{vs:List Value}{ns:List Int}(r:IntsAre vs ns):an h M vs (ns.map .int):=by
 induction r with
 |nil=>exact .nil
 |cons n t h ih=>exact .cons _ _ _ _ (.int _ _) ih
theorem wi: ∃p1 p2 p3 p4 p5,(ak (bg 77)).take 1= [.Assign [.Name "deck" p1] (.Call (.Name "_law_deck" p2) [.Name "script" p3] [] p4) p5]:=by
 conv=>arg 1;intro p1;arg 1;intro p2;arg 1;intro p3;arg 1;intro p4;arg 1;intro p5;lhs;unfold bg pw;whnf
 exact ⟨_,_,_,_,_,rfl⟩
theorem pB{w:World}{h:Heap}(K:xc w h):h.get? 918=some {cls:=.none,dict:=none,data:=.fields #[]}:=by
 have h1:=K 918 (um w.params) (List.mem_of_getElem? (i:=173) (by kernel_rfl));have h2:um w.params= {cls:=.none,dict:=none,data:=.fields #[]}:=by unfold um;rfl
 rwa [h2] at h1
theorem zz{x:Cx}(R8:aY (fW x 8 60) (ah (run 8) 60))(X8:lE (fW x 8 60) (ah (run 8) 60))(R9:aY (fW x 9 60) (ah (run 9) 60))(X9:lE (fW x 9 60) (ah (run 9) 60))
  {cE:Fc} (hx:cE.x=x) (X:xb cE.x) (O:dq cE) (N:aT cE (ai (bg 77)).names) (Ni:fW x 9 60 cE) (hc:cE.comp=false) (hA:AR cE.A cE.outer 9) {ns:List Int} {cells:List Int} {am:Int} {S2 S3:St} (nk:cells.length≤1000)
  (Gz:lj (ah (run 8) 60) (ai (bg 62)).names ((ak (bg 62)).take 2) ⟨[((("script":Str),Loc.d (.lst (ns.map .int))):Str×Loc)],none⟩=some (.ok .next,S2))
  (Gy:S2.ρ.lookup ("cells":Str)=some (.d (.lst (cells.map .int)))) (MM:S2.ρ.lookup ("mixed":Str)=some (.d (.int am)))
  (ML:lj (ah (run 9) 60) (ai (bg 77)).names ((ak (bg 77)).drop 1) ⟨[((("script":Str),Loc.d (.lst (ns.map .int))):Str×Loc),(("deck":Str),.ptr)],some (.deck cells.reverse am)⟩=some (.ok (.ret (.bool true)),S3))
  {lab1:ag} {s1:Shared} (I:Inv cE lab1 ⟨[((("script":Str),Loc.d (.lst (ns.map .int))):Str×Loc)],none⟩ s1) {Q:Flow→Shared→Prop} {E:Value→Shared→Prop} (hQ: ∀AY S4 s4,Inv cE AY S4 s4→Q (.ret (.bool true)) s4):
  wpAny (model pw cE.x.w) cE.A (execs (ak (bg 77)) cE.env) Q E s1:=by
 obtain ⟨I',k'⟩:=I.dropSlots rfl (fun y l e=>by
  exact fj e (fun _ e=>e▸fun e=>nomatch e) fun e=>nomatch e)
 generalize DD:aW (fun l=> !l.ofSlot) lab1=be at I' k';have xE:aW cP.ofSlot be=fun _=>none:=funext fun a=>aB fun l e=>by
  rw [←DD] at e;have:=(aq.mp e).2
  simpa using this
 have gW:ak (bg 77)= (ak (bg 77)).take 1++ (ak (bg 77)).drop 1:=(List.take_append_drop 1 _).symm;rw [gW];refine bc fun no=> ?_;obtain ⟨p1,p2,p3,p4,p5,Fv⟩:=wi;refine no ?_;clear no;refine gJ _ _ ?_;rw [Fv];refine wpAny_execs_cons (wpAny_Assign_Name ?_ rfl);rw [arm_eval_Call_Name'];refine wpAny_bind (wpAny_Name (dF O I' (N.glob "_law_deck" (by kernel_rfl)) (d:=.val (.ref 850)) (by kernel_rfl) fun v rv=> ?_) (by decide));obtain rfl:v=_:=aD.val' rv;refine bG rfl ?_;rw [bz rfl];refine spliced_cons (wpAny_Name (bI O I' (x:="script") (l:=.d (.lst (ns.map .int))) rfl fun sv rs=>spliced_nil ⟨cO (I'.kf O) (by unfold KF;kernel_rfl), ?_⟩) (by decide));have CK:=dG (p:=cP.ofSlot) I'.core rfl;rw [xE] at CK;have F8:aD s1.heap (Rs (bY cP.ofSlot cE.G be) fun _=>none) sv (.lst (ns.map .int)):=by
  rw [←xE];exact aD.mono (fun a _ _ _ n q _=>⟨q,fun z=>n (gt.mp z)⟩) rs
 refine wpAny_call (wA R8 X8 (c:=withG cE (bY cP.ofSlot cE.G be)) hx X (bx (c:=cE) I') hA CK F8 Gz Gy MM nk fun D Ez s2 CP hD=> ?_);refine bc fun no=> ?_;obtain ⟨I2,k2,m2,rb⟩:=eY (p:=cP.ofSlot) I' (fun l h=>h) (by rw [xE];exact CP) (fun a l e=>(CP.only a l e).1) (.inr ⟨fun l h=>h,rfl⟩);refine no ?_;clear no;have Sx:be D=none:=by
  cases q:be D with
  |none=>rfl
  |some l=>
   have h1:(bY cP.ofSlot cE.G be) D:=.inr ⟨l,q,by
    rw [←DD] at q;have:=(aq.mp q).2
    simpa using this⟩
   have:=CP.core.disj D h1;rw [hD] at this;cases this
 refine dY O I2 (x:="deck") (l:=.ptr) (.inr ⟨hc,(N.cell "deck" (by kernel_rfl)).2⟩) ⟨D,rfl,by unfold bt;rw [Sx];exact hD⟩ fun s3 I3 k3=>wpAny_execs_nil ⟨rfl, ?_⟩;refine i5 R9 X9 Ni hc N ((ak (bg 77)).drop 1) _ _ s3 _ _ ML I3 _ _ (fun f fl AY s4 e I4 k4 m4 r4=> ?_) (fun e lab' s' q=>nomatch q)
 cases e
 cases f<;>first|exact r4.elim|skip
 cases r4
 exact hQ _ _ _ I4
theorem zx(hZ:ic)(HH: ∀x n k r,cZ x (run n) n→aY (fW x n k) r→ix (fW x n k) (run n) r)(HP:pE):uC:=by
 intro w s₀ s mg mb G K xF l vs ns n hl hI aP;refine bc fun no=> ?_;obtain ⟨cells,am,S2,S3,nk,Gz,Gy,MM,ML⟩:=HP ns aP;refine no ?_;clear no
 let x:Cx:=⟨w,s.heap,s.os⟩
 have EF:s.heap.get? 918=some {cls:=.none,dict:=none,data:=.fields #[]}:=pB K;have Rx:o4 s.heap:=by
  refine bc fun no=> ?_;obtain ⟨bm,ob,b1,b2,b3,b4,b5,b6⟩:=G.T.bmain;refine no ?_;clear no;refine ⟨mg,G.T.g,bm,ob,b1,b2,fun q=> ?_,fun q=> ?_,b3,b4,b5,b6⟩
  ·refine bc fun no=> ?_
   obtain ⟨o,es,ep,e,hd,_⟩:=G.T.g;refine no ?_;clear no;rw [q,e] at b3;cases b3;rw [hd] at b6;cases b6
  ·rw [q,EF] at b3;cases b3;exact nomatch b4
 have X:xb x:=⟨K,G.T.nolimit,⟨mb,G.T.b,G.T.builtins⟩,Rx⟩;have HS:=z6 hZ (Ct x) (HH x);refine bc fun no=> ?_;obtain ⟨R8,X8⟩:=pg hZ (HS 8) (fun k r=>HH x 8 k r (HS 8)) 60;obtain ⟨R9,X9⟩:=pg hZ (HS 9) (fun k r=>HH x 9 k r (HS 9)) 60;refine no ?_;clear no;have NB:918<s.heap.objs.size∧dK s.heap:=by
  have h1:=pB K;refine ⟨Heap.lt_size h1,#[],h1, ?_,fun pos cv e=> ?_⟩
  ·trivial
  ·exact nomatch e
 let c0:Fc:=⟨x,callerA,fun _=>False,default,[],false⟩
 have C0:ch c0.x c0.G (fun _=>none) c0.outer s:=⟨OldK.refl _,rfl,xF,(fun a e=>(e.elim False.elim fun e=>absurd rfl e)),(fun env he=>nomatch he),(fun _ _ _ e=>nomatch e),(fun _ _=>rfl),NB⟩;have rv:aD s.heap (Rs c0.G fun _=>none) (.ref l) (.lst (ns.map .int)):=.lst l _ _ n (.of hl) (fun z=>z.elim False.elim fun z=>absurd rfl z) (wo hI);have mF:((945:Addr),(⟨bg 77,[]⟩:dj))∈eB:=by
  exact List.mem_of_getElem? (i:=64) (by kernel_rfl)
 refine wpAny_call (fP (c:=c0) (lab:=fun _=>none) (F:=⟨bg 77,[]⟩) (as:=[.d (.lst (ns.map .int))]) (σ:=none) mF X rfl rfl rfl (Nat.le_of_ble_eq_true rfl) (Nat.le_of_ble_eq_true rfl) (fun _ _ e=>nomatch e) C0 trivial (Nat.le_refl _) (.cons _ _ _ _ rv .nil) (by unfold gS;dsimp only;rw [qD];rfl) fun fd L lab1 s1 hL O N I k m=> ?_);have D5:ej ⟨bg 77,[]⟩ [.d (.lst (ns.map .int))]= [((("script":Str),Loc.d (.lst (ns.map .int))):Str×Loc)]:=by
  unfold ej;dsimp only;rw [qD];rfl
 rw [D5] at I;have Ni:fW x 9 60 (ff c0 fd L 945):=⟨rfl,O,Nat.le_of_ble_eq_true rfl,Nat.le_of_ble_eq_true rfl⟩;exact zz R8 X8 R9 X9 (cE:=ff c0 fd L 945) rfl X O N Ni rfl ⟨rfl,rfl,rfl,Nat.le_of_ble_eq_true rfl,Nat.le_of_ble_eq_true rfl⟩ nk Gz Gy MM ML I fun AY S4 s4 I4=>⟨rfl,I4.core.old,I4.core.os,fun g hg=>by
  rw [I4.core.gens] at hg;exact absurd hg (Array.not_mem_empty g)⟩
theorem uf{pos':Pos}{a b:Int}{c cv:Value}(l:List Value)(h:TriplesOk l)(e:codeAmong pos' (l++ [rawInt a,rawInt b,c])=some cv):codeAmong pos' l=some cv∨cv=c:=by
 fun_induction TriplesOk l with
 |case1=>
  simp only [List.nil_append,codeAmong,rawInt] at e
  split at e
  ·cases e;exact .inr rfl
  ·exact nomatch e
 |case2 a' t b' u x rest ih=>
  simp only [List.cons_append,codeAmong] at e ⊢
  split at e
  ·rename_i hc;rw [if_pos hc];exact .inl e
  ·rename_i hc;rw [if_neg hc];exact ih h e
 |case3 l h1 h2=>exact h.elim
theorem u3{P:Params}{h:Heap}(X:(KF P).In h):CodeHd h 920 918:=codeHd_of_K X (by unfold KF;kernel_rfl)
theorem Ac{fd:FuncData}(hp:iY fd.params=true)(hd:fd.defaults= .none)(hk:fd.kwdefaults= .none):bindArgs fd ⟨[],[]⟩=pure []:=by
 cases fd
 rename_i params _ _ _ _ _ _ _ _ _ _ _ _
 obtain ⟨p1,p2,p3,p4,p5,p6,p7⟩:=params;dsimp only at hd hk hp;subst hd hk;unfold iY at hp;simp only [Bool.and_eq_true,List.isEmpty_iff,Option.isNone_iff_eq_none] at hp;obtain ⟨⟨⟨⟨⟨⟨rfl,rfl⟩,rfl⟩,rfl⟩,rfl⟩,rfl⟩,rfl⟩:=hp;rfl
inductive F0(s':Shared)(body:Expr)(sc:Scope)(cl:List (Str×Addr))(lam:Addr):Prop where
 |mk (fd:FuncData) (h1:s'.heap.get? lam=some {cls:=.type "function",data:=.func fd}) (h2:fd.scope=sc) (h3:fd.body= .expr body) (h4:fd.closure=cl) (h5:fd.globals=mainGlobals) (h6:fd.builtins=builtinsNs) (h7:bindArgs fd ⟨[],[]⟩=pure []) (h8:fd.qualname=gr) (h9:qk s'.heap fd.code)
structure vf(x:Cx)(s:Shared)(params:Arguments)(body:Expr)(sc:Scope)(cl:List (Str×Addr))(lam:Addr)(s':Shared):Prop where
 keep: ∀b o,b≠918→s.heap.get? b=some o→s'.heap.get? b=some o
 old:OldK x.base s'.heap
 tab:dK s'.heap
 os:s'.os=s.os
 gens:s'.gens=s.gens
 fresh:s.heap.objs.size≤lam
 big:s.heap.objs.size≤s'.heap.objs.size
 obj:F0 s' body sc cl lam
section
variable{x:Cx}(hK:xc x.w x.base)(hM:o4 x.base)
include hK hM
theorem qL{M:Model}{A:Around}{E:Value→Shared→Prop}{s:Shared}{params:Arguments}{body:Expr}{sc:Scope}{cl:List (Str×Addr)}{env:Env}{pos:Pos}{n:Nat}{ct:Value}{Q:Value→Shared→Prop}
  (hp:iY params=true) (hg:env.globals=mainGlobals) (hc:env.code= .ref 920) (O:OldK x.base s.heap) (T:dK s.heap)
  (h: ∀lam s',vf x s params body sc cl lam s'→Q (.ref lam) s'):
  wpAny M A (do
   let code ←functionCode env pos n "<lambda>" gr params sc (.expr body)
   let b ←builtinsFor env.globals env.builtins
   let pm ←nsGet env.globals "__name__"
   let doc ← (pure .none:Sem Value)
   newObj (.type "function") (.func {name:="<lambda>",qualname:=gr,params:=params,body:=.expr body,scope:=sc,globals:=env.globals,closure:=cl,closureTuple:=ct,code:=code,builtins:=b,defaults:=.none,kwdefaults:=.none,annotations:=none,pyModule:=pm.getD .none,doc:=doc})) Q E s:=by
 refine bc fun no=> ?_;obtain ⟨mg,PA,Sh⟩:=hM;have Ts:=sN O PA (by decide);have X:=hH hK O;have C:=u3 X;obtain ⟨ps,t1,t2,t3⟩:=T;refine no ?_;clear no;have rS:s.heap.BuiltinsAt mg 918:=by
  refine bc fun no=> ?_;obtain ⟨bm,o,a,b,c,d,e,f,r⟩:=Sh;refine no ?_;clear no;exact ⟨bm,o,a,b,c,d,O.get_of_cls e (by rw [f];exact fun e=>nomatch e),f,r⟩
 have rest: ∀(cv:Value) (h':Heap) (tk:Tok),(∀b o,b≠918→s.heap.get? b=some o→h'.get? b=some o)→OldK x.base h'→dK h'→s.heap.objs.size≤h'.objs.size→qk h' cv→
   wpAny M A (do
    let b ←builtinsFor env.globals env.builtins
    let pm ←nsGet env.globals "__name__"
    let doc ← (pure .none:Sem Value)
    newObj (.type "function") (.func {name:="<lambda>",qualname:=gr,params:=params,body:=.expr body,scope:=sc,globals:=env.globals,closure:=cl,closureTuple:=ct,code:=cv,builtins:=b,defaults:=.none,kwdefaults:=.none,annotations:=none,pyModule:=pm.getD .none,doc:=doc})) Q E {s with heap:=h',toks:=tk}:=by
  intro cv h' tk hk O' T' gP RY;refine bc fun no=> ?_;obtain ⟨bm,ob,Sf,Of,_,Oe,Ma,Om,K9,La⟩:=rS;refine no ?_;clear no;have G4:h'.Ns mainGlobals mg:=sN O' PA (by decide);rw [hg];refine wpAny_bind (wpAny_builtinsFor G4 Sf Of (hk _ _ Oe Ma) Om K9 La ?_);refine wpAny_bind (wpAny_nsGet G4 ?_);refine wpAny_bind (wpAny_pure (wpAny_newObj_type ?_ (by size_fits)));refine h _ _ ⟨fun b o hb e=>Heap.get?_push_of_some _ (hk b o hb e),O'.step_keeps fun b o e=>Heap.get?_push_of_some _ e,T'.keep fun b o e=>Heap.get?_push_of_some _ e,rfl,rfl,gP, ?_,_,Heap.get?_push_size _ rfl,rfl,rfl,rfl,rfl,rfl, ?_,rfl, ?_⟩
  ·show s.heap.objs.size≤(h'.push _).objs.size
   rw [Heap.size_push];exact Nat.le_succ_of_le gP
  ·exact Ac hp rfl rfl
  ·refine bc fun no=> ?_
   obtain ⟨c1,o1,v1,q1,e1,e2,e3,e4,e5⟩:=RY;refine no ?_;clear no;exact ⟨c1,o1,v1,q1,e1,Heap.get?_push_of_some _ e2,e3,e4,e5⟩
 cases hf:codeAmong pos ps.toList with
 |some cv=>
  refine wpAny_bind (wpAny_functionCode_hit hc (C.code t1 t2) hf ?_);exact rest cv s.heap s.toks (fun _ _ _ e=>e) O ⟨ps,t1,t2,t3⟩ (Nat.le_refl _) (t3 pos cv hf)
 |none=>
  refine wpAny_bind (wpAny_functionCodeX hc (C.code t1 t2) (C.tab t1) hf fun c' h' tk hx RN AK _ N7 Px So=> ?_);have O':OldK x.base h':=O.step_table ((u3 (hH hK (OldK.refl _))).tab (pB hK)) (C.tab t1) Px hx (by decide);have ct:qk h' (.ref c'):=by
   refine bc fun no=> ?_;obtain ⟨c1,o1,v1,q1,e1,e2,e3,e4⟩:=N7;refine no ?_;clear no
   cases e1
   refine bc fun no=> ?_;obtain ⟨P',_,_,⟨o2,v2,f1,f2,f3,f4⟩,_⟩:=So;refine no ?_;clear no;rw [e2] at f1;cases f1;exact ⟨_,o1,v1,q1,rfl,e2,f2,e3,e4⟩
  refine rest _ h' tk (fun b o hb e=>hx b o hb e) O' ?_ (Nat.le_trans RN (Nat.le_of_lt AK)) ct;refine ⟨_,Px.2, ?_,fun pos' cv e=> ?_⟩
  ·rw [Array.toList_append]
   exact TriplesOk_snoc _ _ _ _ t2
  ·rw [Array.toList_append] at e
   rcases uf _ t2 e with e|rfl
   ·refine bc fun no=> ?_
    obtain ⟨cc,o,vs,t,q1,q2,q3,q4,q5⟩:=t3 pos' cv e;refine no ?_;clear no;exact ⟨cc,o,vs,t,q1,hx cc o (fun z=>by rw [z,t1] at q2;cases q2;exact nomatch q3) q2,q3,q4,q5⟩
   ·exact ct
theorem zA{M:Model}{A:Around}{E:Value→Shared→Prop}{s:Shared}{params:Arguments}{body:Expr}{sc:Scope}{cl:List (Str×Addr)}{env:Env}{pos:Pos}{Q:Value→Shared→Prop}
  (hp:iY params=true) (hg:env.globals=mainGlobals) (hc:env.code= .ref 920) (hq:env.qual="_law_keys_right.<locals>.") (nk:closureFor sc env=pure cl) (O:OldK x.base s.heap) (T:dK s.heap)
  (h: ∀lam s',vf x s params body sc cl lam s'→Q (.ref lam) s'):wpAny M A (eval (.Lambda params body sc pos) env) Q E s:=by
 refine kla_eval ?_ ?_
 ·obtain ⟨p1,p2,p3,p4,p5,p6,p7⟩:=params
  unfold iY at hp;simp only [Bool.and_eq_true,List.isEmpty_iff,Option.isNone_iff_eq_none] at hp;obtain ⟨⟨⟨⟨⟨⟨rfl,rfl⟩,rfl⟩,rfl⟩,rfl⟩,rfl⟩,rfl⟩:=hp;rfl
 rw [hq,show (("_law_keys_right.<locals>.":Str)++"<lambda>")=gr from rfl,makeFunction_eq];simp only [List.zip_nil_right,List.filterMap_nil,List.isEmpty_nil,if_true,pure_bind];unfold makeTail;rw [nk];refine wpAny_bind (wpAny_pure ?_)
 cases cl with
 |nil=>
  simp only [List.isEmpty_nil,if_true];refine wpAny_bind (wpAny_pure ?_);exact qL hK hM hp hg hc O T h
 |cons q r=>
  simp only [List.isEmpty_cons,Bool.false_eq_true,if_false];refine wpAny_bind (wpAny_newTextTuple ?_);have kp: ∀b o,s.heap.get? b=some o→(s.heap.push {cls:=.type "tuple",data:=.seq (((q::r).mergeSort fun a b=>a.1.cps.toList≤b.1.cps.toList).map (.ref ·.2)).toArray}).get? b=some o:=fun b o e=>Heap.get?_push_of_some _ e;refine qL hK hM hp hg hc (O.step_keeps kp) (T.keep kp) fun lam s' L=>h lam s' ?_;have gP:s.heap.objs.size≤(s.heap.push {cls:=.type "tuple",data:=.seq (((q::r).mergeSort fun a b=>a.1.cps.toList≤b.1.cps.toList).map (.ref ·.2)).toArray}).objs.size:=by rw [Heap.size_push];exact Nat.le_succ _
  exact ⟨fun b o hb e=>L.keep b o hb (kp b o e),L.old,L.tab,L.os,L.gens,Nat.le_trans gP L.fresh,Nat.le_trans gP L.big,L.obj⟩
end
noncomputable def az:ag:=fun _=>none
theorem F3{p:cP→Bool}:aW p az=az:=funext fun a=>aB fun l e=>nomatch e
noncomputable def EI(c:Fc)(s:Shared)(e:Value)(s':Shared):Prop:=
 ∃ea bs a0,e= .ref ea∧Mi az s.heap bs∧(∀a o o0,c.x.base.get? a=some o0→s'.heap.get? a=some o→bs.get? a=some o)∧Heap.FlyingW bs c.outer ea (.ref 64) a0 s'.heap∧dK bs
theorem qT{c:Fc}{s s':Shared}{bs h':Heap}(C:ch c.x c.G az c.outer s)(old:OldK c.x.base s'.heap)(os:s'.os=c.x.os)(gens:s'.gens= #[])(k:Kept az s.heap az s'.heap)(Di:Mi az s.heap bs)
  (low: ∀a o o0,c.x.base.get? a=some o0→s'.heap.get? a=some o→bs.get? a=some o) (tb:dK bs) (st:bs.StaysIn h') (up:s'.heap.UpToSlots h'):
  aA c az s none az {s' with heap:=h'}∧∀a o o0,c.x.base.get? a=some o0→h'.get? a=some o→bs.get? a=some o:=by
 have kk:Kept az s.heap az h':=fun b o e q z=>by
  by_cases hf:o.cls≠ .type "frame"∨∃vs,o.data= .fields vs
  ·refine bc fun no=> ?_
   obtain ⟨sl,r1,r2⟩:=Di b o e q z hf;refine no ?_;clear no;exact ⟨⟨sl,st _ _ r1,r2⟩,rfl⟩
  ·refine bc fun no=> ?_
   obtain ⟨⟨sl,q1,q2⟩,_⟩:=k b o e q z;obtain ⟨dQ,r1⟩:=up b _ q1 (fun vs e=>hf (.inr ⟨vs,e⟩));refine no ?_;clear no;exact ⟨⟨dQ,r1,fun n=>absurd (.inl n) hf⟩,rfl⟩
 have Ex: ∀b o o0,c.x.base.get? b=some o0→h'.get? b=some o→bs.get? b=some o:=fun b o o0 h0 ho=>by
  obtain ⟨o',pO⟩:=old.there b o0 h0;have hb:=low b o' o0 h0 pO;have:=st _ _ hb;rw [ho] at this;cases this;exact hb
 have NI:OldK c.x.base h':=oa old fun b o o0 h0 ho=>st _ _ (low b o o0 h0 ho);refine ⟨⟨⟨NI,os,gens,fun b e=> ?_,fun env he=> ?_,(fun b b' l e=>nomatch e),fun b e=>rfl,C.tab.1,tb.keep st⟩,trivial,kk,(fun e=>nomatch e),(fun b l e=>nomatch e)⟩,Ex⟩
 ·rcases e with e|e
  ·refine bc fun no=> ?_
   obtain ⟨q,cl,d,y,z,n⟩:=C.res b (.inl e);refine no ?_;clear no;exact ⟨q,cl,d,y,(kk.at b cl d y rfl z n).1,n⟩
  ·exact absurd rfl e
 ·refine bc fun no=> ?_
  obtain ⟨q,l,d,y,e,r,z,m⟩:=C.fr env he;refine no ?_;clear no;have hg:c.G l:=r.elim id fun q=>nomatch q;exact ⟨q,l,d,y,e,.inl hg,(kk.at l _ d y rfl z (fun e=>nomatch e)).1,m⟩
theorem wv{c:Fc}{A':Around}{e:Env}{G':Addr→Prop}{b:Bool}{L:Addr}{s s1 s':Shared}{ev:Value}{M:Model}(C:ch c.x c.G az c.outer s)(k0: ∀b o,s.heap.get? b=some o→s1.heap.get? b=some o)
  (P:aA ⟨c.x,A',G',e,e::c.outer,b⟩ az s1 none az s') (F:ji ⟨c.x,A',G',e,e::c.outer,b⟩ az s1 ev s') (Aw:A'.frames=some (e::c.outer)) (hL:e.frame=some L) {R:Result→Shared→Prop}
  (hR: ∀s'',aA c az s none az s''→EI c s ev s''→R (.error ev) s''):wpAny M A' («leaving» e ev) (fun _ s''=>R (.error ev) s'') (fun e' s''=>R (.error e') s'') s':=by
 refine bc fun no=> ?_;obtain ⟨ea,bs,rfl,Di,low,FB,tb⟩:=F;refine no ?_;clear no;have Hi:Mi az s.heap bs:=fun a o e q n m=>Di a o rfl (k0 a o q) n m;have k:Kept az s.heap az s'.heap:=(Kept.of_keeps (lab:=az) k0).trans P.kept;have key: ∀a0 h',Heap.FlyingW bs c.outer ea (.ref 64) a0 h'→s'.heap.UpToSlots h'→R (.error (.ref ea)) {s' with heap:=h'}:=fun a0 h' fw up=>by
  obtain ⟨h1,h2⟩:=qT C P.core.old P.core.os P.core.gens k Hi low tb fw.1 up;exact hR _ h1 ⟨ea,bs,a0,rfl,Hi,h2,fw,tb⟩
 rcases FB with ⟨a0,fw⟩|⟨oe,vs,a0,he,hc,hd,h0,h1,em,GD,M1⟩
 ·exact wpAny_leaves_onW Aw hL fw fun h' f1 f2=>key a0 h' f1 f2
 ·refine wpAny_leaving_firstW Aw M1 hL he em GD hd h1 h0 fun h' ⟨k1,⟨_,_,k2⟩,k3,k4⟩=>key a0 h' ⟨k1,GD,k2, ?_⟩ k4
  rw [hc] at k3;exact k3
theorem tI{M:Model}{A:Around}{E:Value→Shared→Prop}{s:Shared}{scope:Scope}{globals:Addr}{cl:List (Str×Addr)}{qual:Str}{func:Option Addr}{code:Value}{builtins:Addr}{Q:Env→Shared→Prop}(hc: ∀x∈scope.names,x.2≠ .cell)
  (hQ:Q (newEnv scope s.heap.objs.size globals cl qual func code none builtins) {s with heap:=s.heap.push {cls:=.type "frame",data:=.dict #[]}}):wpAny M A (newFunctionEnv scope globals cl [] qual func code none builtins) Q E s:=by
 simp only [newFunctionEnv,Option.isSome_none,Bool.false_eq_true,if_false];refine wpAny_bind (wpAny_alloc ?_);rw [forIn_yield_id cl (fun x hx c=>by
   obtain ⟨name,kind⟩:=x;have:(kind==NameKind.cell)=false:=by simpa using hc _ hx
   simp only [this,Bool.false_eq_true,if_false])]
 exact wpAny_bind (wpAny_pure (wpAny_bind (wpAny_pure (wpAny_pure hQ))))
theorem ky{M:Model}{A:Around}{E:Value→Shared→Prop}{s:Shared}{k:Const}{ki:Nat}{kp:Pos}{env:Env}{d:D}{N:Addr→Prop}{Q:Value→Shared→Prop}(h:gc k=some d)
  (hQ: ∀v s',Keeps s s'→aD s'.heap N v d→Q v s'):wpAny M A (eval (.Constant k ki kp) env) Q E s:=by
 have t:=aw (s:=s) (s.toks+1)
 cases k<;>cases h
 ·exact wpAny_Constant_none (hQ _ _ ⟨s.heap,s.toks,rfl,fun _ _ e=>e⟩ .none)
 ·exact wpAny_Constant_bool (hQ _ _ ⟨s.heap,s.toks,rfl,fun _ _ e=>e⟩ (.bool _))
 ·exact wpAny_Constant_int (hQ _ _ t (.int _ _))
 ·exact wpAny_Constant_str (hQ _ _ t (.str _ _))
 ·rename_i b
  refine Constant_bytes (hQ _ _ t ?_);have:=aD.bytes (h:=s.heap) (M:=N) b.toArray s.toks;exact this
theorem wu{P:Params}{prog:Program}{w:World}{s:Shared}(X:(KF P).In s.heap){C x dx f:Addr}{m:Str}(hm:bT C m=some f)(h1:At s.heap x (.ref C) (some dx) .plain){es:Array DictEntry}{n:Nat}(h2:At s.heap dx (.type "dict") none (.dict es n))(h3:StrKeys es)
  (hv:nsFind es m=none) {A:Around} {pl:Sem Bool} {Q:Value×List Value→Shared→Prop} {E:Value→Shared→Prop} (h:Q (.ref f,[.ref x]) s):wpAny (model prog w) A (getMethod (.ref x) m pl) Q E s:=by
 refine bc fun no=> ?_;obtain ⟨f1,f2,f3,f4,f5⟩:=dD P hm;refine no ?_;clear no;refine method_fn (od:=some ⟨.type "dict",none,.dict es n,#[]⟩) X ⟨h1.exact,rfl,rfl,h2.exact⟩ f1 f2 f3 f4 ?_ h;unfold shadowIn;dsimp only;rw [iH h3,hv];rfl
theorem zB{c:Fc}{s:Shared}(C:ch c.x c.G az c.outer s)(hb:c.x.base.objs.size≤s.heap.objs.size){L:Addr}(hL:s.heap.objs.size=L){env:Env}(L6:env.frame=some L)(RT:env.scope.kind= .function):
  ch c.x (aZ c.G L) az (env::c.outer) {s with heap:=s.heap.push {cls:=.type "frame",data:=.dict #[]}}:=by
 have wX: ∀b o,s.heap.get? b=some o→(s.heap.push {cls:=.type "frame",data:=.dict #[]}).get? b=some o:=fun b o e=>Heap.get?_push_of_some _ e;have su:At (s.heap.push {cls:=.type "frame",data:=.dict #[]}) L (.type "frame") none (.dict #[] 0):=⟨#[],hL▸Heap.get?_push_size _ rfl,fun _=>rfl⟩;refine ⟨C.old.step_keeps wX,C.os,C.gens,fun b e=> ?_,fun e he=> ?_,(fun _ _ _ e=>nomatch e),(fun _ _=>rfl),C.tab.1,C.tab.2.keep wX⟩
 ·refine e.elim (fun e=>e.elim (fun e=> ?_) fun e=> ?_) fun e=>absurd rfl e
  ·refine bc fun no=> ?_
   obtain ⟨q,cl,d,y,z,nn⟩:=C.res b (.inl e);refine no ?_;clear no;exact ⟨q,cl,d,y,z.keep wX,nn⟩
  ·rw [show b=L from e];exact ⟨hL▸hb,_,_,_,su,fun e=>nomatch e⟩
 ·refine (List.mem_cons.mp he).elim (fun he=> ?_) fun he=> ?_
  ·rw [he];exact ⟨by rw [RT];exact (fun e=>nomatch e),L,_,_,L6,.inl (.inr rfl),su,fun vs e=>nomatch e⟩
  ·refine bc fun no=> ?_
   obtain ⟨w1,w2,w3,w4,w5,w6,w7,w8⟩:=C.fr e he;refine no ?_;clear no;exact ⟨w1,w2,w3,w4,w5,w6.imp .inl id,w7.keep wX,w8⟩
theorem tL{c:Fc}{A:Around}{env:Env}{L:Addr}{s s2 s3:Shared}(C:ch c.x c.G az c.outer s)(xm: ∀b o,s.heap.get? b=some o→s2.heap.get? b=some o)(P:aA ⟨c.x,A,aZ c.G L,env,env::c.outer,true⟩ az s2 none az s3):aA c az s none az s3:=by
 refine ⟨⟨P.core.old,P.core.os,P.core.gens,fun b e=>P.core.res b (e.imp .inl id),fun e he=> ?_,(fun _ _ _ e=>nomatch e),(fun _ _=>rfl),P.core.tab⟩,trivial,(Kept.of_keeps (lab:=az) xm).trans P.kept,(fun e=>nomatch e),(fun _ _ e=>nomatch e)⟩;refine bc fun no=> ?_;obtain ⟨w1,w2,w3,w4,w5,w6,w7,w8⟩:=P.core.fr e (List.mem_cons_of_mem _ he);obtain ⟨_,l2,_,_,e2,r2,_⟩:=C.fr e he;refine no ?_;clear no;rw [w5] at e2;cases e2;exact ⟨w1,w2,w3,w4,w5,r2,w7,w8⟩
theorem uW{c:Fc}{s s':Shared}{lab':ag}(P:aA c az s none lab' s'):lab'=az:=funext fun b=>by
 cases q:lab' b with
 |none=>rfl
 |some l=>have:=(P.only b l q).2;exact nomatch this
theorem zC{x:Cx}{fn:au}{n:Nat}(hF:cZ x fn n){c:Fc}(hx:c.x=x)(X:xb c.x){s:Shared}(C:ch c.x c.G az c.outer s)(hb:c.x.base.objs.size≤s.heap.objs.size)(Ee:c.A.handled=none)(Dg:c.A.frames=some c.outer)(Ef:c.A.guards=some [])
  (hd:c.A.depth+1+4*n≤590) (hu:c.A.units+3+300*n≤4600) {lam:Addr} {fd:FuncData} {nx ny m:Str} {xp yp ap p kp:Pos} {k:Const} {ki:Nat}
  (ho:s.heap.get? lam=some {cls:=.type "function",data:=.func fd}) (xd:d8 fd.scope nx ny=true) (gW:fd.body= .expr (.Call (.Attribute (.Name nx xp) m ap) [.Name ny yp,.Constant k ki kp] [] p)) (Ld:bindArgs fd ⟨[],[]⟩=pure []) (AN:s.heap.CodeRec fd.code fd.qualname)
  {ax ay:Addr} {vx vy:Value} {C' f:Addr} {fs:List (Str×D)} {key dflt:D} (Sk:fd.closure.lookup nx=some ax) (Re:At s.heap ax (.type "cell") none (.cell (some vx))) (rx:aD s.heap (Rs c.G az) vx (.inst C' fs))
  (Sj:fd.closure.lookup ny=some ay) (Rc:At s.heap ay (.type "cell") none (.cell (some vy))) (ry:aD s.heap (Rs c.G az) vy key) (hk:gc k=some dflt) (hm:bT C' m=some f) (hn:fs.lookup m=none) (xD:(ap.endLine==p.line)=true)
  (Dd:(nx== ("__debug__":Str))=false) (L1:(ny== ("__debug__":Str))=false) (Ru:(nx== ("__classdict__":Str))=false) (Rt:(ny== ("__classdict__":Str))=false) {o:bH D} (nc:fn f [.d (.inst C' fs),.d key,.d dflt] none=some (o,none))
  {R:Result→Shared→Prop} (hR: ∀v d s',o= .ok d→aA c az s none az s'→aD s'.heap (Rs c.G az) v d→R (.ok (.ret v)) s') (hE: ∀e s',o= .bad→aA c az s none az s'→EI c s e s'→R (.error e) s'):
  codeAny (model pw c.x.w) c.A (.call (.ref lam) ⟨[],[]⟩) R s:=by
 unfold d8 at xd;simp only [Bool.and_eq_true,Bool.not_eq_true',beq_iff_eq,List.all_eq_true] at xd;refine bc fun no=> ?_;obtain ⟨⟨⟨⟨⟨q1,q2⟩,q3⟩,q4⟩,q5⟩,q6⟩:=xd;refine no ?_;clear no;refine kla_callFunE (by unfold recursionLimit;lia) ho rfl q3 q2 gW AN ?_;rw [Ld];refine wpAny_pure (tI (fun z m e=>by have:=(q6 z m).1;rw [e] at this;exact nomatch this) ?_);generalize hL:s.heap.objs.size=L;have wX: ∀b o,s.heap.get? b=some o→(s.heap.push {cls:=.type "frame",data:=.dict #[]}).get? b=some o:=fun b o e=>Heap.get?_push_of_some _ e;have su:At (s.heap.push {cls:=.type "frame",data:=.dict #[]}) L (.type "frame") none (.dict #[] 0):=⟨#[],hL▸Heap.get?_push_size _ rfl,fun _=>rfl⟩;have GO:OldK c.x.base (s.heap.push {cls:=.type "frame",data:=.dict #[]}):=C.old.step_keeps wX;refine ⟨uV GO X.lim, ?_⟩;generalize A2:newEnv fd.scope L fd.globals fd.closure (fd.qualname++".<locals>.") (some lam) fd.code none fd.builtins=env;have L6:env.frame=some L:=by rw [←A2];rfl
 have RS:env.scope=fd.scope:=by rw [←A2];rfl
 have PO:env.cells=fd.closure:=by rw [←A2];rfl
 refine kla_codeExpr ?_;have Av: ∀z,env.kindOf z=fd.scope.names.lookup z:=fun z=>by rw [←A2];rfl
 have ek:env.scope.kind= .function:=by rw [RS,q1]
 have C1:=zB C hb hL L6 ek;have up: ∀{h:Heap} {v:Value} {d:D},(∀b o,s.heap.get? b=some o→h.get? b=some o)→aD s.heap (Rs c.G az) v d→aD h (Rs (aZ c.G L) az) v d:=fun kp r=>r.mono fun a c' d x' nn q _=>⟨q.keep kp,fun z=>by
  exact z.elim (fun z=>z.elim (fun z=>nn (.inl z)) fun z=>Nat.ne_of_lt q.lt (z.trans hL.symm)) fun z=>absurd rfl z⟩
 refine bc fun no=> ?_;obtain ⟨TD,GX,_⟩:=Re.keep wX;obtain ⟨TC,N5,_⟩:=Rc.keep wX;have O6:=up wX rx;obtain ⟨a,dx,mm,g,es,n',Rh,g1,g2,g3,g4,g5,g6,g7,g8⟩:=rx.inst';rw [Rh] at O6 GX;refine no ?_;clear no;refine d4 (by unfold cF;dsimp only;rw [xD];rfl) (Nat.le_of_ble_eq_true rfl) rfl (wpAny_Name (wpAny_loadName_free ek ((Av nx).trans q4) (by rw [PO];exact Sk) ⟨_,GX,rfl⟩ (fun pl=> ?_) Ru) Dd);have X1:(KF c.x.w.params).In (s.heap.push {cls:=.type "frame",data:=.dict #[]}):=hH X.K GO;refine wu X1 hm (g1.keep wX) (g3.keep wX) g4 (by rw [g5];exact (g7 m).2 hn) ?_;refine bG rfl ?_;rw [bz rfl,bz rfl];refine spliced_cons (wpAny_Name (wpAny_loadName_free ek ((Av ny).trans q5) (by rw [PO];exact Sj) ⟨_,N5,rfl⟩ ?_ Rt) L1);refine spliced_cons (ky (ki:=ki) (kp:=kp) (N:=Rs (aZ c.G L) az) hk fun vk s2 K2 rk=>spliced_nil ?_);have My: ∀b o,(s.heap.push {cls:=.type "frame",data:=.dict #[]}).get? b=some o→s2.heap.get? b=some o:=al K2;have xm: ∀b o,s.heap.get? b=some o→s2.heap.get? b=some o:=fun b o e=>My b o (wX b o e);have C2:=C1.keeps K2;refine ⟨cO (hH X.K C2.old) (dD c.x.w.params hm).2.2.2.2, ?_⟩;have N6:c.x.base.objs.size≤s2.heap.objs.size:=by
  have:=Heap.lt_size (My _ _ su.get.choose_spec);exact Nat.le_trans hb (Nat.le_trans (Nat.le_of_eq hL) (Nat.le_of_lt this))
 refine wpAny_call (hF ⟨c.x,c.A.deeper env,aZ c.G L,env,env::c.outer,true⟩ az s2 f [.ref a,vy,vk] [.d (.inst C' fs),.d key,.d dflt] none none o nc hx X N6 ⟨Ee, ?_,Ef, ?_, ?_⟩ (fun _ _ e=>nomatch e) C2 trivial
  (.cons _ _ _ _ (aD.keeps O6 My) (.cons _ _ _ _ (up xm ry) (.cons _ _ _ _ rk .nil))) _ (fun v d lab' s3 e P Rd=> ?_) (fun ev lab' s3 e P FX=> ?_))
 ·show c.A.frames.map (env:: ·)=_
  rw [Dg];rfl
 ·show c.A.depth+1+4*n≤590
  exact hd
 ·show c.A.units+3+300*n≤4600
  exact hu
 ·have hl:=uW P
  rw [hl] at P Rd;refine hR v d s3 e (tL C xm P) (aD.mono (fun b c' d x' nn q _=>⟨q,fun z=>nn (z.imp .inl id)⟩) Rd)
 ·rw [uW P] at P
  refine wv C xm P FX ?_ L6 fun s4 P4 F4=>hE ev s4 e P4 F4;show c.A.frames.map (env:: ·)=_;rw [Dg];rfl
theorem wL{P:Params}{M:Model}{A:Around}{E:Value→Shared→Prop}{s:Shared}(X:(KF P).In s.heap){e:Addr}{oe:Obj}(he:s.heap.get? e=some oe)(hc:oe.cls= .ref 64){Q:Bool→Shared→Prop}(hq:Q true s):
  wpAny M A (excMatches (.ref e) (.ref 64)) Q E s:=by
 obtain ⟨hp,g,d,t,os⟩:=s;exact wpAny_excMatches_sub_self (X _ _ (pC P)) he hc (by decide+kernel) hq
theorem qE:bq (bg 72)= [("call":Str)]:=by kernel_rfl
theorem tV: ∃p1 k2 p2 p3 p4 p5 p6 p7 p8 p9 Po Pd Pb Pa O9 Mv Mu,ak (bg 72)= [.Assign [.Name "found" p1] (.Constant .none k2 p2) p3,
  .Try [.Assign [.Name "found" p4] (.Call (.Name "call" p5) [] [] p6) p7] [.ExceptHandler (some (.Name "BadConfig" p8)) none [.Assign [.Name "found" p9] (.Constant (.str "bad") Po Pd) Pb] Pa] [] [] O9,.Return (some (.Name "found" Mv)) Mu]:=by
 obtain ⟨l,hl⟩: ∃l,l=ak (bg 72):=⟨_,rfl⟩;have rW:=hl
 conv at hl=>rhs;unfold bg pw;whnf
 rw [←rW,hl];exact ⟨_,_,_,_,_,_,_,_,_,_,_,_,_,_,_,_,_,rfl⟩
inductive kI(G:Addr→Prop)(s:Shared)(lam:Addr)(f:Addr)(C':Addr)(fs:List (Str×D))(key dflt:D):Prop where
 |mk (fd:FuncData) (nx ny m:Str) (xp yp ap p kp:Pos) (k:Const) (ki:Nat) (ax ay:Addr) (vx vy:Value) (w1:s.heap.get? lam=some {cls:=.type "function",data:=.func fd}) (w2:d8 fd.scope nx ny=true)
  (w3:fd.body= .expr (.Call (.Attribute (.Name nx xp) m ap) [.Name ny yp,.Constant k ki kp] [] p)) (w4:bindArgs fd ⟨[],[]⟩=pure []) (w5:fd.qualname=gr∧qk s.heap fd.code) (w6:fd.closure.lookup nx=some ax) (w7:At s.heap ax (.type "cell") none (.cell (some vx)))
  (w8:aD s.heap (Rs G az) vx (.inst C' fs)) (w9:fd.closure.lookup ny=some ay) (LR:At s.heap ay (.type "cell") none (.cell (some vy))) (LQ:aD s.heap (Rs G az) vy key) (LO:gc k=some dflt) (LN:bT C' m=some f) (LM:fs.lookup m=none) (LL:(ap.endLine==p.line)=true)
  (LK:(nx== ("__debug__":Str))=false) (LJ:(ny== ("__debug__":Str))=false) (LI:(nx== ("__classdict__":Str))=false) (LH:(ny== ("__classdict__":Str))=false)
theorem kI.kept{c:Fc}{G':Addr→Prop}{lab':ag}{s s':Shared}{lam f C':Addr}{fs:List (Str×D)}{key dflt:D}(L:kI c.G s lam f C' fs key dflt)(k:Kept az s.heap lab' s'.heap)(hG: ∀a,Rs G' az a→Rs c.G lab' a):kI G' s' lam f C' fs key dflt:=by
 refine bc fun no=> ?_;obtain ⟨fd,nx,ny,m,xp,yp,ap,p,kp,kk,ki,ax,ay,vx,vy,w1,w2,w3,w4,w5,w6,w7,w8,w9,LR,LQ,LO,LN,LM,LL,LK,LJ,LI,LH⟩:=L;refine no ?_;clear no;refine ⟨fd,nx,ny,m,xp,yp,ap,p,kp,kk,ki,ax,ay,vx,vy, ?_,w2,w3,w4, ?_,w6,(k.at ax _ _ _ rfl w7 (fun e=>nomatch e)).1, ?_,w9,(k.at ay _ _ _ rfl LR (fun e=>nomatch e)).1, ?_,LO,LN,LM,LL,LK,LJ,LI,LH⟩
 ·refine bc fun no=> ?_
  obtain ⟨⟨sl,h1,h2⟩,_⟩:=k lam _ rfl w1 (fun e=>nomatch e);refine no ?_;clear no;rw [h1,h2 (by simp)]
 ·refine bc fun no=> ?_
  obtain ⟨Mm,c1,o1,v1,q1,e1,e2,e3,e4,e5⟩:=w5;obtain ⟨⟨sl,h1,h2⟩,_⟩:=k c1 _ rfl e2 (by rw [e3];exact fun e=>nomatch e);refine no ?_;clear no;exact ⟨Mm,c1,_,v1,q1,e1,h1,e3,e4,e5⟩
 ·exact (k.rep w8).mono fun a _ _ _ n q _=>⟨q,fun z=>n (hG a z)⟩
 ·exact (k.rep LQ).mono fun a _ _ _ n q _=>⟨q,fun z=>n (hG a z)⟩
section
variable{x:Cx}{fn:au}{n:Nat}(hF:cZ x fn n){c:Fc}(hx:c.x=x)(X:xb c.x)
include hF hx X
theorem Fj{s:Shared}(C:ch c.x c.G az c.outer s)(hb:c.x.base.objs.size≤s.heap.objs.size)(Ee:c.A.handled=none)(Dg:c.A.frames=some c.outer)(Ef:c.A.guards=some [])
  (hd:c.A.depth+1+4*n≤590) (hu:c.A.units+3+300*n≤4600) {lam f C':Addr} {fs:List (Str×D)} {key dflt:D} (L:kI c.G s lam f C' fs key dflt) {o:bH D} (nc:fn f [.d (.inst C' fs),.d key,.d dflt] none=some (o,none))
  {R:Result→Shared→Prop} (hR: ∀v d s',o= .ok d→aA c az s none az s'→aD s'.heap (Rs c.G az) v d→R (.ok (.ret v)) s') (hE: ∀e s',o= .bad→aA c az s none az s'→EI c s e s'→R (.error e) s'):
  codeAny (model pw c.x.w) c.A (.call (.ref lam) ⟨[],[]⟩) R s:=by
 refine bc fun no=> ?_;obtain ⟨fd,nx,ny,m,xp,yp,ap,p,kp,kk,ki,ax,ay,vx,vy,w1,w2,w3,w4,⟨Mm,Qt⟩,w6,w7,w8,w9,LR,LQ,LO,LN,LM,LL,LK,LJ,LI,LH⟩:=L;refine no ?_;clear no;refine zC hF hx X C hb Ee Dg Ef hd hu w1 w2 w3 w4 ?_ w6 w7 w8 w9 LR LQ LO LN LM LL LK LJ LI LH nc hR hE;refine bc fun no=> ?_;obtain ⟨cc,o',vs,t,q1,q2,q3,q4,q5⟩:=Qt;refine no ?_;clear no;exact ⟨cc,o',vs,t,q1,q2,q4,by rw [Mm];exact q5⟩
end
set_option backward.match.sparseCases true
theorem tG{c:Fc}{lab':ag}{s s':Shared}(P:aA c az s none lab' s'):lab'=az:=funext fun b=>by
 cases q:lab' b with
 |none=>rfl
 |some l=>have:=(P.only b l q).2;exact nomatch this
noncomputable def oC:cP→Bool:=fun _=>false
theorem im{lab:ag}:aW oC lab=az:=funext fun a=>aB fun _ _=>rfl
theorem l8{lab:ag}{S:St}{c:Fc}{s s':Shared}(I:Inv c lab S s)(P:aA (withG c (bY oC c.G lab)) az s none az s'):
  Inv c (bt oC lab az) S s'∧Kept lab s.heap (bt oC lab az) s'.heap∧aV lab (bt oC lab az)∧∀{v d},aD s'.heap (Rs (bY oC c.G lab) az) v d→aD s'.heap (Rs c.G (bt oC lab az)) v d:=
 eY (p:=oC) I (fun _ _=>rfl) (by rw [im];exact P) (fun a l e=>nomatch e) (.inl ⟨fun _=>rfl,rfl⟩)
section
variable{x:Cx}{fn:au}{n:Nat}(hF:cZ x fn n)
include hF
theorem tT{cE:Fc}(hx:cE.x=x)(X:xb cE.x)(O:dq cE){out:List Env}(ho:cE.outer=cE.env::out){L0:Addr}(Aw:cE.env.frame=some L0)(kF:cE.env.kindOf ("found":Str)=some .local)(kB:cE.env.kindOf ("BadConfig":Str)=some .globalImplicit)(hd:cE.A.depth+1+4*n≤590)(hu:cE.A.units+3+300*n≤4600)
  {s s1:Shared} {lab1:ag} {lam f C':Addr} {fs:List (Str×D)} {key dflt:D} (L:kI cE.G s lam f C' fs key dflt) {o:bH D} (nc:fn f [.d (.inst C' fs),.d key,.d dflt] none=some (o,none)) (k:Kept az s.heap lab1 s1.heap)
  (I:Inv cE lab1 ⟨[((("call":Str),Loc.d (.val (.ref lam))):Str×Loc)],none⟩ s1) {Q:Flow→Shared→Prop} {E:Value→Shared→Prop}
  (hQ: ∀lab' ρ v s',Inv cE lab' ⟨ρ,none⟩ s'→Kept az s.heap lab' s'.heap→ei cE s'.heap lab' v (cj o)→Q (.ret v) s'):
  wpAny (model pw cE.x.w) cE.A (execs (ak (bg 72)) cE.env) Q E s1:=by
 refine bc fun no=> ?_;obtain ⟨p1,k2,p2,p3,p4,p5,p6,p7,p8,p9,Po,Pd,Pb,Pa,O9,Mv,Mu,gW⟩:=tV;refine no ?_;clear no;rw [gW];refine wpAny_execs_cons (wpAny_Assign_Name (ky (N:=Rs cE.G lab1) rfl fun v0 s2 K2 r2=> ?_) rfl);refine dY O (I.keeps K2) (x:="found") (l:=.d .none) (.inl kF) r2 fun s3 I3 k3=> ?_;have MA:Kept az s.heap lab1 s3.heap:=(k.trans (.of_keeps (al K2))).trans k3;have dR: ∀(lab':ag) (ρ:List (Str×Loc)) (v:Value) (s':Shared),Inv cE lab' ⟨ρ,none⟩ s'→Kept az s.heap lab' s'.heap→ρ.lookup ("found":Str)=some (.d (cj o))→wpAny (model pw cE.x.w) cE.A (execs [.Return (some (.Name "found" Mv)) Mu] cE.env) Q E s':=
  fun lab' ρ v s' I' k' hρ=>wpAny_execs_cons (wpAny_Return_some (wpAny_Name (bI O I' (x:="found") (l:=.d (cj o)) hρ fun v' rv=>hQ _ _ _ _ I' k' rv) (by decide)))
 refine wpAny_execs_cons (wpAny_Try_except ?_);have Pq: ∀l:Loc,(upd (upd [((("call":Str),Loc.d (.val (.ref lam))):Str×Loc)] "found" (.d .none)) "found" l).lookup ("found":Str)=some l:=fun l=>by rw [aN,if_pos (beq_self_eq_true _)]
 have Lk:kI (bY oC cE.G lab1) s3 lam f C' fs key dflt:=L.kept MA fun a z=>gt.mp (by rw [im];exact z);have CK:=dG (p:=oC) I3.core rfl;rw [im] at CK;have Ed:=bx I3;refine wpAny_execs_cons (wpAny_Assign_Name ?_ rfl);rw [arm_eval_Call_Name'];refine wpAny_bind (wpAny_Name (bI O I3 (x:="call") (l:=.d (.val (.ref lam))) rfl fun v rv=> ?_) (by decide));obtain rfl:v=_:=aD.val' rv;refine bG rfl (spliced_nil ⟨?_, ?_⟩)
 ·refine bc fun no=> ?_
  obtain ⟨T9,_,_,_,_,_,_,_,_,_,_,_,_,_,_,w1,_⟩:=Lk;refine no ?_;clear no;exact keeps_F s3.heap ⟨_,_,_,_,w1⟩
 refine wpAny_call (Fj hF (c:=withG cE (bY oC cE.G lab1)) hx X CK Ed O.handled O.frames O.guards ?_ ?_ Lk nc (fun v d s4 ho P Rd=> ?_) (fun e s4 ho P F=> ?_))
 ·exact hd
 ·exact hu
 ·refine bc fun no=> ?_
  subst ho;obtain ⟨I4,k4,m4,rb⟩:=l8 I3 P;refine no ?_;clear no;refine dY O I4 (x:="found") (l:=.d d) (.inl kF) (rb Rd) fun s5 I5 k5=>wpAny_execs_nil (wpAny_execs_nil ?_);exact dR _ _ v s5 I5 ((MA.trans k4).trans k5) (Pq _)
 ·refine bc fun no=> ?_
  subst ho;obtain ⟨ea,bs,a0,rfl,Di,low,fw,tb⟩:=F;refine no ?_;clear no;have RE:Kept az s3.heap az s4.heap:=P.kept;have GT: ∀h',bs.StaysIn h'→s4.heap.UpToSlots h'→Inv cE (bt oC lab1 az) ⟨upd [((("call":Str),Loc.d (.val (.ref lam))):Str×Loc)] "found" (.d .none),none⟩ {s4 with heap:=h'}∧Kept az s.heap (bt oC lab1 az) h':=fun h' st up=>by
   have P6:=(qT (c:=withG cE (bY oC cE.G lab1)) CK P.core.old P.core.os P.core.gens RE Di low tb st up).1;refine bc fun no=> ?_;obtain ⟨I6,k6,_⟩:=l8 I3 P6;refine no ?_;clear no;exact ⟨I6,MA.trans k6⟩
  replace fw:Heap.FlyingW bs cE.outer ea (.ref 64) a0 s4.heap:=fw;rw [ho] at fw;refine wpAny_looks_onW (O.frames.trans (congrArg some ho)) Aw fw fun h5 K7 O2=>wpAny_landsW K7 fun h6 No OZ=> ?_;refine bc fun no=> ?_;obtain ⟨I6,k6⟩:=GT h6 No.1 (O2.trans OZ);obtain ⟨oe,RU,Se⟩:=No.there;refine no ?_;clear no;refine wpAny_handleBy_cons (codeAny_handlers_test (wpAny_Name (dF O I6 kB (d:=.val (.ref 64)) (by kernel_rfl) fun v rv=> ?_) (by decide))) (by intro q;exact nomatch q);obtain rfl:v=_:=aD.val' rv;refine wL (I6.kf O) RU Se (codeAny_handlers_suite ?_);refine lands_againW No fun h7 SM Qu=> ?_;obtain ⟨I7,k7⟩:=GT h7 SM.1 ((O2.trans OZ).trans Qu);refine wpAny_execs_cons (wpAny_Assign_Name (ky (N:=Rs cE.G (bt oC lab1 az)) rfl fun v0 s8 K8 r8=> ?_) rfl);refine dY O (I7.keeps K8) (x:="found") (l:=.d (.str "bad")) (.inl kF) r8 fun s9 I9 k9=>wpAny_execs_nil ?_;exact dR _ _ v0 s9 I9 ((k7.trans (.of_keeps (al K8))).trans k9) (Pq _)
variable{c:Fc}(hx:c.x=x)(X:xb c.x)
include hx X
theorem tU{s:Shared}(C:ch c.x c.G az c.outer s)(hb:c.x.base.objs.size≤s.heap.objs.size)(Ee:c.A.handled=none)(Dg:c.A.frames=some c.outer)(Ef:c.A.guards=some [])
  (hd:c.A.depth+2+4*n≤590) (hu:c.A.units+30+300*n≤4600) {lam f C':Addr} {fs:List (Str×D)} {key dflt:D} (L:kI c.G s lam f C' fs key dflt) {o:bH D} (nc:fn f [.d (.inst C' fs),.d key,.d dflt] none=some (o,none))
  {R:Result→Shared→Prop} (hR: ∀v s',aA c az s none az s'→aD s'.heap (Rs c.G az) v (cj o)→R (.ok (.ret v)) s'):
  codeAny (model pw c.x.w) c.A (.call (.ref 916) ⟨[.ref lam],[]⟩) R s:=by
 have mF:((916:Addr),(⟨bg 72,[]⟩:dj))∈eB:=List.mem_cons_of_mem _ (List.mem_cons_of_mem _ (List.mem_cons_of_mem _ List.mem_cons_self));refine fP (c:=c) (lab:=az) (F:=⟨bg 72,[]⟩) (as:=[.d (.val (.ref lam))]) (σ:=none) mF X Ee Dg Ef (by lia) (by lia) (fun _ _ e=>nomatch e) C trivial hb (.cons _ _ _ _ (.val _) .nil) (by unfold gS;dsimp only;rw [qE];rfl) fun fd L9 lab1 s1 hL O N I k m=> ?_;have D5:ej ⟨bg 72,[]⟩ [.d (.val (.ref lam))]= [((("call":Str),Loc.d (.val (.ref lam))):Str×Loc)]:=by
  unfold ej;dsimp only;rw [qE];rfl
 rw [D5] at I;refine tT hF (cE:=ff c fd L9 916) hx X O (out:=c.outer) rfl rfl (N.loc "found" (by kernel_rfl)) (N.glob "BadConfig" (by kernel_rfl)) (by show c.A.depth+1+1+4*n≤590;lia) (by show c.A.units+3+3+300*n≤4600;lia) L nc k I fun lab' ρ v s' I' k' rv=> ?_;refine bc fun no=> ?_;obtain ⟨CP,rp⟩:=sR C (fun _ _ e=>nomatch e) I' k' (fun a e=>nomatch e);refine no ?_;clear no;have hl:=tG CP;have Mq:=rp rv;rw [hl] at CP;unfold ei at Mq;rw [hl] at Mq;exact hR v s' CP Mq
end
set_option backward.match.sparseCases false
theorem Inv.tab918{c:Fc}{lab:ag}{S:St}{s s':Shared}(I:Inv c lab S s)(k: ∀b o,b≠918→s.heap.get? b=some o→s'.heap.get? b=some o)(old:OldK c.x.base s'.heap)(tb:dK s'.heap)(os:s'.os=s.os)(gens:s'.gens=s.gens):Inv c lab S s'∧Kept lab s.heap lab s'.heap:=by
 have EF: ∀{cl:Value} {d:Option Addr} {y:Data},At s.heap 918 cl d y→cl= .none:=fun q=>by
  obtain ⟨ps,h1,_⟩:=I.core.tab.2;obtain ⟨sl,e,_⟩:=q;rw [h1] at e;cases e;rfl
 have ka: ∀a cl d y,At s.heap a cl d y→cl≠ .none→At s'.heap a cl d y:=fun a cl d y q hn=>by
  have kO:a≠918:=fun e=>hn (EF (e▸q));obtain ⟨sl,e,z⟩:=q;exact ⟨sl,k a _ kO e,z⟩
 have kr: ∀a cl d y,¬Rs c.G lab a→At s.heap a cl d y→cl≠ .none→At s'.heap a cl d y∧¬Rs c.G lab a:=fun a cl d y n q hc=>⟨ka a cl d y q hc,n⟩;have kf: ∀L,Ek lab lab s.heap s'.heap L:=fun L a e=>⟨e,fun cl d y q hc=>ka a cl d y q hc⟩;refine ⟨⟨⟨old,os.trans I.core.os,gens.trans I.core.gens,fun a e=> ?_,fun env he=> ?_,I.core.inj,I.core.disj,I.core.tab.1,tb⟩,I.isFrame, ?_,fun x l e q=> ?_,fun hc x e=> ?_, ?_⟩,fun a o e q n=> ?_⟩
 ·obtain ⟨q,cl,d,y,z,n⟩:=I.core.res a e
  exact ⟨q,cl,d,y,ka a cl d y z n,n⟩
 ·obtain ⟨q,L,d,y,e,r,z,m⟩:=I.core.fr env he
  exact ⟨q,L,d,y,e,r,ka L _ d y z (fun e=>nomatch e),m⟩
 ·obtain ⟨cl,es,n,h1,h2,h3,h4⟩:=I.frame
  exact ⟨cl,es,n,ka _ _ _ _ h1 h2,h2,h3,fun x l e q=>let ⟨v,h5,h6⟩:=h4 x l e q;⟨v,h5,j9 kr (kf _) (fun a e=>e) h6⟩⟩
 ·obtain ⟨h1,a,v,h2,h3,h4,h5,h6⟩:=I.cells x l e q
  exact ⟨h1,a,v,h2,h3,h4,ka _ _ _ _ h5 (fun e=>nomatch e),j9 kr (kf _) (fun a e=>e) h6⟩
 ·obtain ⟨a,v,h1,h2,h3⟩:=I.bare hc x e
  exact ⟨a,v,h1,h2,ka _ _ _ _ h3 (fun e=>nomatch e)⟩
 ·exact ee kr (fun L _=>kf L) I.slot
 ·have kO:a≠918:=fun e=>n (by
   obtain ⟨ps,h1,_⟩:=I.core.tab.2;rw [e,h1] at q;cases q;rfl)
  exact ⟨⟨o.slots,k a o kO q,fun _=>rfl⟩,e⟩
theorem Cb(P:Params):keepIn (KF P) (.ref 916)=true:=by unfold KF;kernel_rfl
theorem Cm:bV.lookup ("_law_heard":Str)=some (.val (.ref 916)):=by kernel_rfl
inductive C8(ns:ab)(S:St)(f:Expr)(args:List Expr)(o:Expr)(m:Str)(as:List Expr):Prop where
 |mk (fp:Pos) (ps:Arguments) (nx:Str) (xp ap:Pos) (ny:Str) (yp:Pos) (kk:Const) (ki:Nat) (kp q:Pos) (sc:Scope) (lp:Pos) (e1:f= .Name "_law_heard" fp) (e2:args= [.Lambda ps (.Call (.Attribute (.Name nx xp) m ap) [.Name ny yp,.Constant kk ki kp] [] q) sc lp]) (eo:o= .Name nx xp) (ea:as= [.Name ny yp,.Constant kk ki kp])
  (h2:dZ ns=true) (h3:cG ns "_law_heard" S=true) (h4:(ap.endLine==q.line)=true) (h5:iY ps=true) (h6:d8 sc nx ny=true) (h7:ns.lookup nx=some .cell) (h8:ns.lookup ny=some .cell) (h9:(nx== ("__debug__":Str))=false) (AO:(ny== ("__debug__":Str))=false) (Gf:(nx== ("__classdict__":Str))=false) (Dh:(ny== ("__classdict__":Str))=false)
theorem zN{ns:ab}{S:St}{f:Expr}{args:List Expr}{p:Pos}{o:Expr}{m:Str}{as:List Expr}(hh:cM ns (.Call f args [] p) S=some (o,m,as)):C8 ns S f args o m as:=by
 replace hh:mi ns (.Call f args [] p) (cG ns "_law_heard" S)=some (o,m,as):=hh;refine ae hh fun c0 a1 hh=>ae hh fun f0 a2 hh=>ae hh fun a a3 hh=>ae hh fun l a4 hh=>ae hh fun c1 a5 hh=>ae hh fun q0 a6 hh=>ae hh fun x0 a7 hh=>ae hh fun yk a8 hh=>ae hh fun y0 a9 hh=>ae hh fun k0 Nv hh=>aH hh fun hc Me=> ?_;obtain rfl:_=c0:=Option.some.inj a1;refine gN hc fun hc Dh=>gN hc fun hc Gf=>gN hc fun hc AO=>gN hc fun hc h9=>gN hc fun hc h8=>gN hc fun hc h7=>gN hc fun hc h6=>gN hc fun hc h5=>gN hc fun hc h4=>gN hc fun hc h3=>gN hc fun hc h2=>gN hc fun hc h1=>gN hc fun _ h0=> ?_;have e1:=congrArg Prod.fst (Option.some.inj Me);have e2:=congrArg Prod.snd (Option.some.inj Me);have ex:=bM a7;have ea:=iF a8;rw [bM a9,jf Nv] at ea;refine ⟨f0.2,l.1,x0.1,x0.2,q0.p,y0.1,y0.2,k0.1,k0.2.1,k0.2.2,c1.p,l.2.2.1,l.2.2.2, ?_, ?_,e1.symm.trans ex,(congrArg Prod.snd e2).symm.trans ea,h2,h3,h4,h5,h6,beq_iff_eq.mp h7,beq_iff_eq.mp h8,Bool.not_eq_true' _ |>.mp h9,Bool.not_eq_true' _ |>.mp AO,Bool.not_eq_true' _ |>.mp Gf,Bool.not_eq_true' _ |>.mp Dh⟩
 ·exact (bM a2).trans (congrArg (Expr.Name · f0.2) (beq_iff_eq.mp h1))
 ·refine (dU a3).trans ?_
  rw [Af a4,fU a5,d5 a6,ex,ea,List.isEmpty_iff.mp h0,show q0.m=m from congrArg Prod.fst e2]
theorem zO(x:Cx)(n k:Nat)(r:ba)(hF:cZ x (run n) n)(R:aY (fW x n k) r):ix (fW x n k) (run n) r:=by
 intro c ns hP hN f args p o m as S S' res lab s hh hf I Q E hQ hE;have O:=hP.ok;have X:=hP.xok;refine bc fun no=> ?_;obtain ⟨fp,ps,nx,xp,ap,ny,yp,kk,ki,kp,q,sc,lp,rfl,rfl,rfl,rfl,h2,h3,h4,h5,h6,h7,h8,h9,AO,Gf,Dh⟩:=zN hh;refine no ?_;clear no;refine ae hf fun x0 b1 hf=>ae hf fun yk b2 hf=>ae hf fun y0 b3 hf=>ae hf fun k0 b4 hf=>ae hf fun l1 b5 hf=>ae hf fun d1 b6 hf=>ae hf fun q1 b7 hf=>ae hf fun l2 b8 hf=>ae hf fun key b9 hf=>ae hf fun dflt e3 hf=>ae hf fun g e4 hf=>aH hf fun e5 hf=>ae hf fun p1 e6 hf=>aH hf fun e7 Me=> ?_;refine bc fun no=> ?_;obtain rfl:(nx,xp)=x0:=Option.some.inj b1;obtain rfl:(_,_)=yk:=Option.some.inj b2;obtain rfl:(ny,yp)=y0:=Option.some.inj b3;obtain rfl:(kk,ki,kp)=k0:=Option.some.inj b4;obtain ⟨C,fs⟩:=q1;obtain ⟨o,σo⟩:=p1;obtain rfl:σo=none:=Option.isNone_iff_eq_none.mp e7;refine no ?_;clear no;have e1:S.ρ.lookup nx=some (.d (.inst C fs)):=b5.trans (by rw [pk b6,pD b7]);have e2:S.ρ.lookup ny=some (.d key):=b8.trans (by rw [pk b9]);replace e5:=Option.isNone_iff_eq_none.mp e5;have L4:ns.lookup ("_law_heard":Str)=some .globalImplicit:=by
  exact beq_iff_eq.mp (Bool.and_eq_true_iff.mp h3).2
 rw [arm_eval_Call_Name'];refine wpAny_bind (wpAny_Name (dF O I (hN.glob _ L4) Cm fun v rv=> ?_) (by decide));obtain rfl:v=_:=aD.val' rv;refine bG rfl ?_;rw [bz rfl];refine spliced_cons ?_;refine bc fun no=> ?_;obtain ⟨xG,KT⟩:=hN.code (hN.cell nx h7).1 h2;have xd:=h6;unfold d8 at xd;simp only [Bool.and_eq_true,Bool.not_eq_true',beq_iff_eq,List.all_eq_true,Bool.or_eq_true] at xd;obtain ⟨⟨⟨⟨⟨q1,q2⟩,q3⟩,q4⟩,q5⟩,q6⟩:=xd;obtain ⟨cl,nk,yn⟩:=iV (env:=c.env) (sc:=sc) (fun z mz=>O.cellsOk z (by
  rcases (q6 _ mz).2 with e|e
  ·have e':z=nx:=e
   rw [e'];exact (hN.cell nx h7).2
  ·have e':z=ny:=e
   rw [e'];exact (hN.cell ny h8).2))
 refine no ?_;clear no;refine zA O.K O.mn h5 O.globals xG KT nk I.core.old I.core.tab.2 fun lam s1 LP=>spliced_nil ⟨cO (hH O.K LP.old) (Cb _), ?_⟩;obtain ⟨I1,k1⟩:=I.tab918 LP.keep LP.old LP.tab LP.os LP.gens;have CK:=dG (p:=oC) I1.core rfl;rw [im] at CK;have up: ∀{v d},aD s1.heap (Rs c.G lab) v d→aD s1.heap (Rs (bY oC c.G lab) az) v d:=fun r=>r.mono fun a _ _ _ nn q _=>⟨q,fun z=>nn (gt.mp (by rw [im];exact z))⟩;have LA:kI (bY oC c.G lab) s1 lam g C fs key dflt:=by
  refine bc fun no=> ?_;obtain ⟨fd,w1,w2,w3,w4,w5,w6,w7,w8,w9⟩:=LP.obj;obtain ⟨_,ax,vx,x2,_,_,x5,x6⟩:=I1.cells nx _ e1 (by rw [(hN.cell nx h7).2];exact fun e=>nomatch e);obtain ⟨_,ay,vy,y2,_,_,y5,y6⟩:=I1.cells ny _ e2 (by rw [(hN.cell ny h8).2];exact fun e=>nomatch e);refine no ?_;clear no;exact ⟨fd,nx,ny,m,xp,yp,ap,q,kp,kk,ki,ax,ay,vx,vy,w1,by rw [w2];exact h6,w3,w7,⟨w8,w9⟩,by rw [w4,yn nx (Mine.dE q4)];exact x2,x5,up x6,
   by rw [w4,yn ny (Mine.dE q5)];exact y2,y5,up y6,e3,e4,e5,h4,h9,AO,Gf,Dh⟩
 refine wpAny_call (tU hF (c:=withG c (bY oC c.G lab)) hP.cx X CK (bx (c:=c) I1) O.handled O.frames O.guards hP.depth (by have:=hP.units;show c.A.units+30+300*n≤4600;lia) LA e6 fun v s2 P Rv=> ?_);refine bc fun no=> ?_;obtain ⟨I2,k2,m2,rb⟩:=l8 I1 P;refine no ?_;clear no;exact dR (R:=dc c) (b:=.d (cj o)) hQ Me I2 (k1.trans k2) m2 (rb Rv)
theorem Bh(HP:pE):uC:=zx EK zO HP
theorem TS{β:Type}{x:Str}{b:β}{l:List (Str×β)}:((x,b)::l).lookup x=some b:=by rw [List.lookup_cons,beq_self_eq_true]
theorem QW{β:Type}{x y:Str}{c:β}{l:List (Str×β)}{r:Option β}(h:(x==y)=false)(h2:l.lookup x=r):((y,c)::l).lookup x=r:=by rw [List.lookup_cons,h];exact h2
theorem Qv{β:Type}{x:Str}{b c:β}{l:List (Str×β)}:upd ((x,c)::l) x b= (x,b)::l:=if_pos (beq_self_eq_true _)
theorem up1{β:Type}{x y:Str}{b c:β}{l l':List (Str×β)}(h:(x==y)=false)(h2:upd l x b=l'):upd ((y,c)::l) x b= (y,c)::l':=(if_neg (by rw [h];exact Bool.false_ne_true)).trans (congrArg ((y,c):: ·) h2)
theorem TA{β:Type}{x:Str}{b:β}:upd [] x b= [(x,b)]:=rfl
inductive WP{β:Type}(m:Ev β)(S:St)(Q:β→St→Prop):Prop where
 |mk (b:β) (S':St) (h:m S=some (.ok b,S')) (hQ:Q b S')
inductive WD(r:ba)(ns:ab)(e:Expr)(S:St)(Q:D→St→Prop):Prop where
 |mk (d:D) (S':St) (h:r.ev ns e S=some (.ok (.d d),S')) (hQ:Q d S')
inductive WB(r:ba)(ns:ab)(e:Expr)(S:St)(Q:Bool→St→Prop):Prop where
 |mk (b:Bool) (S':St) (h:r.evT ns e S=some (.ok b,S')) (hQ:Q b S')
inductive WL(r:ba)(ns:ab)(es:List Expr)(S:St)(Q:List V→St→Prop):Prop where
 |mk (b:List V) (S':St) (h:kE r ns es S=some (.ok b,S')) (hQ:Q b S')
inductive GJ(r:ba)(ns:ab)(es:List Expr)(S:St)(Q:List D→St→Prop):Prop where
 |mk (b:List D) (S':St) (h:ga r ns es S=some (.ok b,S')) (hQ:Q b S')
inductive WS(r:ba)(ns:ab)(st:Stmt)(S:St)(Q:Fl→St→Prop):Prop where
 |mk (f:Fl) (S':St) (h:r.ex ns st S=some (.ok f,S')) (hQ:Q f S')
inductive WX(r:ba)(ns:ab)(l:List Stmt)(S:St)(Q:Fl→St→Prop):Prop where
 |mk (f:Fl) (S':St) (h:lj r ns l S=some (.ok f,S')) (hQ:Q f S')
inductive OK(op:Operator)(a:D)(Q:D→St→Prop)(b:D)(S:St):Prop where
 |mk (d:D) (h:lz op a b=some d) (hQ:Q d S)
inductive OH(op:CmpOp)(a:D)(Q:D→St→Prop)(b:D)(S:St):Prop where
 |mk (c:Bool) (h:gR op a b=some c) (hQ:Q (.bool c) S)
inductive Lv(op:CmpOp)(a:D)(QB:Bool→St→Prop)(b:D)(S:St):Prop where
 |mk (c:Bool) (h:gR op a b=some c) (hQ:QB c S)
inductive Lr(ns:ab)(op:CmpOp)(e:Expr)(QB:Bool→St→Prop)(a:D)(S:St):Prop where
 |mk (own:List D) (AG c:Bool) (h:gZ ns op e S=some (own,AG)) (h2:As a (.lst own)=some c) (hQ:QB (if AG then !c else c) S)
inductive Ox(QB:Bool→St→Prop)(d:D)(S:St):Prop where
 |mk (b:Bool) (h:d= .bool b) (hQ:QB b S)
inductive Lw(f:Str)(Q:D→St→Prop)(d:D)(S:St):Prop where
 |mk (c:Addr) (fs:List (Str×D)) (d':D) (h:d= .inst c fs) (h2:attrOk c f=true) (h3:(fs.lookup f).filter D2=some d') (hQ:Q d' S)
noncomputable abbrev Ti(d:D)(Q:List V→St→Prop)(vs:List V)(S:St):Prop:=Q (.d d::vs) S
noncomputable abbrev Tj(r:ba)(ns:ab)(es:List Expr)(Q:List V→St→Prop)(d:D)(S:St):Prop:=WL r ns es S (Ti d Q)
noncomputable abbrev Th(Q:List V→St→Prop)(vs:List V)(S:St):Prop:=Q (.ptr::vs) S
noncomputable abbrev Tm(d:D)(Q:List D→St→Prop)(vs:List D)(S:St):Prop:=Q (d::vs) S
noncomputable abbrev Tn(r:ba)(ns:ab)(es:List Expr)(Q:List D→St→Prop)(d:D)(S:St):Prop:=GJ r ns es S (Tm d Q)
noncomputable abbrev KX(r:ba)(ns:ab)(rest:List Stmt)(Q:Fl→St→Prop)(f:Fl)(S:St):Prop:=match f with| .next=>WX r ns rest S Q|f=>Q f S
noncomputable abbrev KB(r:ba)(ns:ab)(e:Expr)(op:Operator)(Q:D→St→Prop)(a:D)(S:St):Prop:=WD r ns e S (OK op a Q)
noncomputable abbrev KC(r:ba)(ns:ab)(op:CmpOp)(e:Expr)(Q:D→St→Prop)(a:D)(S:St):Prop:=gZ ns op e S=none∧WD r ns e S (OH op a Q)
noncomputable abbrev To(r:ba)(ns:ab)(op:CmpOp)(e:Expr)(QB:Bool→St→Prop)(a:D)(S:St):Prop:=gZ ns op e S=none∧WD r ns e S (Lv op a QB)
noncomputable abbrev OM(Q:D→St→Prop)(ds:List D)(S:St):Prop:=Q (.tup ds) S
noncomputable abbrev Qg(Q:D→St→Prop)(ds:List D)(S:St):Prop:=Q (.lst ds) S
theorem ad{β γ:Type}{m:Ev β}{k:β→Ev γ}{S S1:St}{b:β}(h:m S=some (.ok b,S1)):Ev.bind m k S=k b S1:=by unfold Ev.bind;rw [h]
section
variable{r:ba}{ns:ab}{S:St}
theorem bJ{e:Expr}{d:D}{S':St}(h:r.ev ns e S=some (.ok (.d d),S')):fe r ns e S=some (.ok d,S'):=by
 unfold fe;rw [ad h]<;>rfl
theorem bn{Q:List V→St→Prop}(h:Q [] S):WL r ns [] S Q:=⟨[],S,rfl,h⟩
theorem aI{e:Expr}{es:List Expr}{Q:List V→St→Prop}(hp:aE e=true)(h:WD r ns e S (Tj r ns es Q)):WL r ns (e::es) S Q:=by
 refine bc fun no=> ?_;obtain ⟨d,S1,h1,vs,S2,h2,hQ⟩:=h;refine no ?_;clear no;refine ⟨_,S2, ?_,hQ⟩;show (if aE e then Ev.bind (r.ev ns e) (fun v=>Ev.bind (kE r ns es) fun vs=>.pure (v::vs)) S else none)=_;rw [if_pos hp,ad h1,ad h2]<;>rfl
theorem uo{x:Str}{p:Pos}{fn:au}{k:Nat}{es:List Expr}{Q:List V→St→Prop}(hn:(x== ("__debug__":Str))=false)(h:S.ρ.lookup x=some .ptr)(hQ:WL (ah fn (k+1)) ns es S (Th Q)):WL (ah fn (k+1)) ns (.Name x p::es) S Q:=by
 obtain ⟨vs,S2,h2,hQ⟩:=hQ;refine ⟨_,S2, ?_,hQ⟩;show Ev.bind ((ah fn (k+1)).ev ns (.Name x p)) _ S=_;have h1:(ah fn (k+1)).ev ns (.Name x p) S=some (.ok .ptr,S):=by
  show (if x=="__debug__" then none else fI ns x S)=_;rw [hn];show (S.ρ.lookup x).elim _ (GR ns x S)=_;rw [h]<;>rfl
 rw [ad h1,ad h2]<;>rfl
theorem lN{Q:List D→St→Prop}(h:Q [] S):GJ r ns [] S Q:=⟨[],S,rfl,h⟩
theorem aL{e:Expr}{es:List Expr}{Q:List D→St→Prop}(hp:aE e=true)(h:WD r ns e S (Tn r ns es Q)):GJ r ns (e::es) S Q:=by
 refine bc fun no=> ?_;obtain ⟨d,S1,h1,vs,S2,h2,hQ⟩:=h;refine no ?_;clear no;refine ⟨_,S2, ?_,hQ⟩;show (if aE e then Ev.bind (fe r ns e) (fun d=>Ev.bind (ga r ns es) fun vs=>.pure (d::vs)) S else none)=_;rw [if_pos hp,ad (bJ h1),ad h2]<;>rfl
theorem aO{Q:Fl→St→Prop}(h:Q .next S):WX r ns [] S Q:=⟨.next,S,rfl,h⟩
theorem aa{st:Stmt}{rest:List Stmt}{Q:Fl→St→Prop}(h:WS r ns st S (KX r ns rest Q)):WX r ns (st::rest) S Q:=by
 obtain ⟨f,S1,h1,h2⟩:=h
 cases f with
 |next=>
  obtain ⟨f,S2,h3,hQ⟩:=h2;exact ⟨f,S2,(ad h1).trans h3,hQ⟩
 |cont=>exact ⟨_,S1,ad h1,h2⟩
 |ret v=>exact ⟨_,S1,ad h1,h2⟩
end
section
variable{fn:au}{k:Nat}{ns:ab}{S:St}{Q:D→St→Prop}{QB:Bool→St→Prop}{QX:Fl→St→Prop}
theorem Ub{e:Expr}{r:ba}(d:D)(S1:St)(h:r.ev ns e S=some (.ok (.d d),S1))(hQ:Q d S1):WD r ns e S Q:=⟨d,S1,h,hQ⟩
theorem Ud{e:Expr}{r:ba}(b:Bool)(S1:St)(h:r.evT ns e S=some (.ok b,S1))(hQ:QB b S1):WB r ns e S QB:=⟨b,S1,h,hQ⟩
theorem Mp{st:Stmt}{r:ba}(f:Fl)(S1:St)(h:r.ex ns st S=some (.ok f,S1))(hQ:QX f S1):WS r ns st S QX:=⟨f,S1,h,hQ⟩
theorem E0{st:Stmt}{r:ba}(h:r.ex ns st S=some (.ok .next,S))(hQ:QX .next S):WS r ns st S QX:=⟨.next,S,h,hQ⟩
theorem Ml{l:List Stmt}{r:ba}(f:Fl)(S1:St)(h:lj r ns l S=some (.ok f,S1))(hQ:QX f S1):WX r ns l S QX:=⟨f,S1,h,hQ⟩
theorem aj{c:Const}{i:Nat}{p:Pos}{d:D}(h:gc c=some d)(hQ:Q d S):WD (ah fn (k+1)) ns (.Constant c i p) S Q:=by
 refine ⟨d,S, ?_,hQ⟩;show Ev.opt ((gc c).map V.d) S=_;rw [h]<;>rfl
theorem ed{x:Str}{p:Pos}(hn:(x== ("__debug__":Str))=false):(ah fn (k+1)).ev ns (.Name x p) S=fI ns x S:=by
 show (if x=="__debug__" then none else fI ns x S)=_;rw [hn]<;>rfl
theorem af{x:Str}{p:Pos}{d:D}(hn:(x== ("__debug__":Str))=false)(h:S.ρ.lookup x=some (.d d))(hQ:Q d S):WD (ah fn (k+1)) ns (.Name x p) S Q:=by
 refine ⟨d,S, ?_,hQ⟩;rw [ed hn];unfold fI;rw [h]<;>rfl
theorem nT{x:Str}{p:Pos}{l:List D}{ρ':List (Str×Loc)}(hn:(x== ("__debug__":Str))=false)(h:S.ρ.lookup x=some (.own l))(hl:ns.lookup x=some .local)(hu:upd S.ρ x (.d (.lst l))=ρ')(hQ:Q (.lst l) ⟨ρ',S.σ⟩):WD (ah fn (k+1)) ns (.Name x p) S Q:=by
 refine ⟨_,_, ?_,hQ⟩;rw [ed hn];unfold fI;rw [h];show (if ns.lookup x==some .local then _ else none)=_;rw [hl, ←hu]<;>rfl
theorem eT{x:Str}{p:Pos}{d:D}(hn:(x== ("__debug__":Str))=false)(h:S.ρ.lookup x=none)(hl:ns.lookup x=some .globalImplicit)(hg:bV.lookup x=some d)(hQ:Q d S):WD (ah fn (k+1)) ns (.Name x p) S Q:=by
 refine ⟨d,S, ?_,hQ⟩;rw [ed hn];unfold fI;rw [h,hl,hg]<;>rfl
theorem eP{l e:Expr}{op:Operator}{p:Pos}(h:WD (ah fn k) ns l S (KB (ah fn k) ns e op Q)):WD (ah fn (k+1)) ns (.BinOp l op e p) S Q:=by
 refine bc fun no=> ?_;obtain ⟨a,S1,h1,b,S2,h2,d,hd,hQ⟩:=h;refine no ?_;clear no;refine ⟨d,S2, ?_,hQ⟩;show Ev.bind _ _ S=_;rw [ad (bJ h1),ad (bJ h2)];show Ev.opt ((lz op a b).map V.d) S2=_;rw [hd]<;>rfl
theorem fq{es:List Expr}{i:Nat}{p:Pos}(hl:(decide (es.length≤1000))=true)(h:GJ (ah fn k) ns es S (OM Q)):WD (ah fn (k+1)) ns (.Tuple es i p) S Q:=by
 obtain ⟨ds,S1,h1,hQ⟩:=h;refine ⟨_,S1, ?_,hQ⟩;show (if es.length≤1000 then Ev.bind _ _ S else _)=_;rw [if_pos (of_decide_eq_true hl),ad h1]<;>rfl
theorem DI{es:List Expr}{p:Pos}(hl:(decide (es.length≤1000))=true)(h:GJ (ah fn k) ns es S (Qg Q)):WD (ah fn (k+1)) ns (.List es p) S Q:=by
 obtain ⟨ds,S1,h1,hQ⟩:=h;refine ⟨_,S1, ?_,hQ⟩;show (if es.length≤1000 then Ev.bind _ _ S else _)=_;rw [if_pos (of_decide_eq_true hl),ad h1]<;>rfl
theorem yC{l e:Expr}{op:CmpOp}{S1 S2:St}{a b:D}{c:Bool}(hm:behindInMarks op e=false)(h1:(ah fn k).ev ns l S=some (.ok (.d a),S1))(hp:gZ ns op e S1=none)(h2:(ah fn k).ev ns e S1=some (.ok (.d b),S2))(hc:gR op a b=some c):
  eL (ah fn k) ns l [op] [e] S=some (.ok c,S2):=by
 show (if behindInMarks op e then none else qg (ah fn k) ns l op e S)=_;rw [hm];refine (ad (bJ h1)).trans ?_;rw [hp];refine (ad (k:=fun b=>.opt (gR op a b)) (bJ h2)).trans ?_;rw [hc]<;>rfl
theorem xJ{l e:Expr}{op:CmpOp}{p:Pos}(hm:behindInMarks op e=false)(h:WD (ah fn k) ns l S (KC (ah fn k) ns op e Q)):WD (ah fn (k+1)) ns (.Compare l [op] [e] p) S Q:=by
 refine bc fun no=> ?_;obtain ⟨a,S1,h1,hp,b,S2,h2,c,hc,hQ⟩:=h;refine no ?_;clear no;refine ⟨_,S2, ?_,hQ⟩;show Ev.bind (eL (ah fn k) ns l [op] [e]) _ S=_;rw [ad (yC hm h1 hp h2 hc)]<;>rfl
theorem aF{l e:Expr}{op:CmpOp}{p:Pos}(hm:behindInMarks op e=false)(h:WD (ah fn k) ns l S (To (ah fn k) ns op e QB)):WB (ah fn (k+1)) ns (.Compare l [op] [e] p) S QB:=by
 refine bc fun no=> ?_;obtain ⟨a,S1,h1,hp,b,S2,h2,c,hc,hQ⟩:=h;refine no ?_;clear no;exact ⟨_,S2,yC hm h1 hp h2 hc,hQ⟩
theorem yJ{l e:Expr}{op:CmpOp}{p:Pos}(hm:behindInMarks op e=false)(h:WD (ah fn k) ns l S (Lr ns op e QB)):WB (ah fn (k+1)) ns (.Compare l [op] [e] p) S QB:=by
 refine bc fun no=> ?_;obtain ⟨a,S1,h1,own,AG,c,hp,hi,hQ⟩:=h;refine no ?_;clear no;refine ⟨_,S1, ?_,hQ⟩;show (if behindInMarks op e then none else qg (ah fn k) ns l op e S)=_;rw [hm];refine (ad (bJ h1)).trans ?_;rw [hp];show (As a (.lst own)).bind _=_;rw [hi]<;>rfl
theorem Bc{t a b:Expr}{p:Pos}(h:WB (ah fn k) ns t S fun c S1=>if c=true then WD (ah fn k) ns a S1 Q else WD (ah fn k) ns b S1 Q):WD (ah fn (k+1)) ns (.IfExp t a b p) S Q:=by
 obtain ⟨c,S1,h1,h2⟩:=h
 cases c with
 |true=>
  obtain ⟨d,S2,h3,hQ⟩:=h2;exact ⟨d,S2,by show Ev.bind _ _ S=_;rw [ad h1];exact h3,hQ⟩
 |false=>
  obtain ⟨d,S2,h3,hQ⟩:=h2;exact ⟨d,S2,by show Ev.bind _ _ S=_;rw [ad h1];exact h3,hQ⟩
theorem fO{e:Expr}{p:Pos}(h:WB (ah fn k) ns e S fun b S1=>QB (!b) S1):WB (ah fn (k+1)) ns (.UnaryOp .Not e p) S QB:=by
 obtain ⟨c,S1,h1,h2⟩:=h;exact ⟨_,S1,by show Ev.bind _ _ S=_;rw [ad h1]<;>rfl,h2⟩
inductive Ej(fn:au)(k:Nat)(ns:ab)(op:BoolOp):List Expr→St→(Bool→St→Prop)→Prop where
 |mk {es S QB} (b:Bool) (S1:St):uy (ah fn k) ns op es S=some (.ok b,S1)→QB b S1→Ej fn k ns op es S QB
theorem bu{op:BoolOp}{es:List Expr}{p:Pos}(h:Ej fn k ns op es S QB):WB (ah fn (k+1)) ns (.BoolOp op es p) S QB:=by
 obtain ⟨b,S1,h1,hQ⟩:=h;exact ⟨b,S1,h1,hQ⟩
theorem dB{op:BoolOp}(h:QB (match op with| .And=>true| .Or=>false) S):Ej fn k ns op [] S QB:=⟨uq op,S,rfl,by cases op<;>exact h⟩
theorem bj{e:Expr}{es:List Expr}(h:WB (ah fn k) ns e S fun b S1=>if b=true then Ej fn k ns .And es S1 QB else QB false S1):Ej fn k ns .And (e::es) S QB:=by
 obtain ⟨b,S1,h1,h2⟩:=h
 cases b with
 |true=>
  obtain ⟨b,S2,h3,hQ⟩:=h2;exact ⟨b,S2,(ad h1).trans h3,hQ⟩
 |false=>exact ⟨false,S1,(ad h1).trans rfl,h2⟩
theorem dw{e:Expr}{es:List Expr}(h:WB (ah fn k) ns e S fun b S1=>if b=true then QB true S1 else Ej fn k ns .Or es S1 QB):Ej fn k ns .Or (e::es) S QB:=by
 obtain ⟨b,S1,h1,h2⟩:=h
 cases b with
 |false=>
  obtain ⟨b,S2,h3,hQ⟩:=h2;exact ⟨b,S2,(ad h1).trans h3,hQ⟩
 |true=>exact ⟨true,S1,(ad h1).trans rfl,h2⟩
noncomputable def E7:Expr→Bool
 | .UnaryOp .Not _ _=>false
 | .BoolOp _ _ _=>false
 | .IfExp _ _ _ _=>false
 | .Compare _ _ _ _=>false
 |_=>true
theorem cV{e:Expr}(hp:E7 e=true)(h:WD (ah fn k) ns e S (Ox QB)):WB (ah fn (k+1)) ns e S QB:=by
 refine bc fun no=> ?_;obtain ⟨d,S1,h1,b,rfl,hQ⟩:=h;refine no ?_;clear no;refine ⟨b,S1, ?_,hQ⟩;have e2:(ah fn (k+1)).evT ns e S=Ev.bind ((ah fn k).ev ns e) (fun v=>.opt (lG v)) S:=by
  show vv (ah fn k) ns e S=_
  cases e<;>first|rfl|exact absurd hp Bool.false_ne_true|skip
  rename_i op e p
  cases op<;>first|rfl|exact absurd hp Bool.false_ne_true
 rw [e2,ad h1]<;>rfl
theorem oX{o:Expr}{f:Str}{p:Pos}(ho:sL o=true)(h:WD (ah fn k) ns o S (Lw f Q)):WD (ah fn (k+1)) ns (.Attribute o f p) S Q:=by
 refine bc fun no=> ?_;obtain ⟨d,S1,h1,c,fs,d',rfl,h2,h3,hQ⟩:=h;refine no ?_;clear no;refine ⟨d',S1, ?_,hQ⟩;show (if sL o then Ev.bind _ _ S else _)=_;rw [ho];show Ev.bind _ _ S=_;rw [ad h1];show (if attrOk c f then Ev.opt (((fs.lookup f).filter D2).map V.d) S1 else none)=_;rw [h2,h3]<;>rfl
end
inductive WO(r:ba)(ns:ab)(e:Option Expr)(S:St)(Q:D→St→Prop):Prop where
 |mk (d:D) (S':St) (h:uu r ns e S=some (.ok d,S')) (hQ:Q d S')
inductive WF(r:ba)(ns:ab)(target:Expr)(body:List Stmt)(items:List D)(S:St)(Q:Fl→St→Prop):Prop where
 |mk (f:Fl) (S':St) (h:forLoop r ns target body items S=some (.ok f,S')) (hQ:Q f S')
inductive WC(r:ba)(ns:ab)(q:ey)(S:St)(Q:List D→St→Prop):Prop where
 |mk (l:List D) (S':St) (h:dW r ns q.elt q.target q.iter q.ifs q.sc S=some (.ok l,S')) (hQ:Q l S')
inductive S9(fn:au)(c:Addr)(fs:List (Str×D))(f:Addr)(Q:D→St→Prop)(vs:List V)(S:St):Prop where
 |mk (h1:vs.any V.isPtr=false) (d':D) (h2:fn f (.d (.inst c fs)::vs) none=some (.ok d',none)) (hQ:Q d' S)
inductive OD(o:D)(Q:D→St→Prop)(j:D)(S:St):Prop where
 |mk (n:Int) (d:D) (h:j= .int n) (h2:nu o n=some d) (hQ:Q d S)
inductive OB(o a:D)(Q:D→St→Prop)(b:D)(S:St):Prop where
 |mk (x y:Option Int) (d:D) (h1:gh a=some x) (h2:gh b=some y) (h3:jZ o x y=some d) (hQ:Q d S)
inductive Ta(fn:au)(a:Addr)(Q:D→St→Prop)(vs:List V)(S:St):Prop where
 |mk (h1:vs.any V.isPtr=false) (d:D) (h2:fn a vs none=some (.ok d,none)) (hQ:Q d S)
inductive OF(fn:au)(a:Addr)(Q:D→St→Prop)(vs:List V)(S:St):Prop where
 |mk (h1:vs.any V.isPtr=true) (sl:Slot) (d:D) (dQ:Slot) (h2:S.σ=some sl) (h3:fn a vs (some sl)=some (.ok d,some dQ)) (hQ:Q d ⟨S.ρ,some dQ⟩)
inductive OI(fn:au)(a i:Addr)(Q:D→St→Prop)(vs:List V)(S:St):Prop where
 |mk (h1:vs.any V.isPtr=false) (fs:List (Str×FV)) (h2:fn i (.ptr::vs) (some (.inst a []))=some (.ok .none,some (.inst a fs))) (hQ:Q (.inst a (fs.map fun p=>(p.1,gu p.2))) S)
inductive OJ(id:String)(Q:D→St→Prop)(vs:List V)(S:St):Prop where
 |mk (ds:List D) (d:D) (h1:kR vs=some ds) (h2:jg id ds=some d) (hQ:Q d S)
inductive Oy(id:String)(Q:D→St→Prop)(vs:List V)(S:St):Prop where
 |mk (ds:List D) (d:D) (h1:kR vs=some ds) (h2:xi id ds=some d) (hQ:Q d S)
inductive Ls(fn:au)(r:ba)(ns:ab)(m:Str)(args:List Expr)(Q:D→St→Prop)(d:D)(S:St):Prop where
 |mk (c:Addr) (fs:List (Str×D)) (f:Addr) (h1:d= .inst c fs) (h2:bT c m=some f) (h3:fs.lookup m=none) (h4:WL r ns args S (S9 fn c fs f Q))
inductive SZ(x m:Str)(Q:D→St→Prop)(vs:List V)(S:St):Prop where
 |mk (ds:List D) (d':D) (h1:kR vs=some ds) (h2:kP x m ds=some d') (hQ:Q d' S)
inductive OA(r:ba)(ns:ab)(m:Str)(args:List Expr)(Q:D→St→Prop)(d:D)(S:St):Prop where
 |mk (x:Str) (h1:d= .str x) (h2:(iX.lookup m).isSome=true) (h3:WL r ns args S (SZ x m Q))
inductive S5(fn:au)(f:Addr)(Q:D→St→Prop)(vs:List V)(S:St):Prop where
 |mk (sl:Slot) (d:D) (dQ:Slot) (h1:S.σ=some sl) (h2:fn f (.ptr::vs) (some sl)=some (.ok d,some dQ)) (hQ:Q d ⟨S.ρ,some dQ⟩)
noncomputable abbrev KI(r:ba)(ns:ab)(i:Expr)(Q:D→St→Prop)(o:D)(S:St):Prop:=WD r ns i S (OD o Q)
noncomputable abbrev Tf(r:ba)(ns:ab)(hi:Option Expr)(o:D)(Q:D→St→Prop)(a:D)(S:St):Prop:=WO r ns hi S (OB o a Q)
noncomputable abbrev Tg(r:ba)(ns:ab)(lo hi:Option Expr)(Q:D→St→Prop)(o:D)(S:St):Prop:=WO r ns lo S (Tf r ns hi o Q)
section
variable{fn:au}{k:Nat}{ns:ab}{S:St}{Q:D→St→Prop}{QB:Bool→St→Prop}{QX:Fl→St→Prop}
theorem ft{v i:Expr}{p:Pos}(he:((ib v).isNone&& (ld i).isNone)=true)(h:WD (ah fn k) ns v S (KI (ah fn k) ns i Q)):WD (ah fn (k+1)) ns (.Subscript v i p) S Q:=by
 refine bc fun no=> ?_;obtain ⟨o,S1,h1,j,S2,h2,n,d,rfl,h3,hQ⟩:=h;refine no ?_;clear no;refine ⟨d,S2, ?_,hQ⟩;obtain ⟨q1,q2⟩:=Bool.and_eq_true_iff.mp he;show (ib v).elim _ _=_;rw [Option.isNone_iff_eq_none.mp q1];show (ld i).elim _ _=_;rw [Option.isNone_iff_eq_none.mp q2];show kZ (ah fn k) ns v i S=_;unfold kZ;rw [ad (bJ h1),ad (bJ h2)];show (nu o n).bind _=_;rw [h3]<;>rfl
theorem x9{r:ba}(hQ:Q .none S):WO r ns none S Q:=⟨_,S,rfl,hQ⟩
theorem oS{r:ba}{e:Expr}(h:WD r ns e S Q):WO r ns (some e) S Q:=by
 obtain ⟨d,S1,h1,hQ⟩:=h;exact ⟨d,S1,bJ h1,hQ⟩
theorem uv{v:Expr}{lo hi:Option Expr}{p p':Pos}(he:(ib v).isNone=true)
  (h:WD (ah fn k) ns v S (Tg (ah fn k) ns lo hi Q)):WD (ah fn (k+1)) ns (.Subscript v (.Slice lo hi none p') p) S Q:=by
 refine bc fun no=> ?_;obtain ⟨o,S1,h1,a,S2,h2,b,S3,h3,x,y,d,h4,h5,h6,hQ⟩:=h;refine no ?_;clear no;refine ⟨d,S3, ?_,hQ⟩;show (ib v).elim _ _=_;rw [Option.isNone_iff_eq_none.mp he];show pc (ah fn k) ns v lo hi S=_;unfold pc;rw [ad (bJ h1),ad h2,ad h3];show (gh a).bind _=_;rw [h4];show (gh b).bind _=_;rw [h5];show (jZ o x y).bind _=_;rw [h6]<;>rfl
theorem qS{a:Addr}{vs:List V}{d:D}(h5:vs.any V.isPtr=false)(h6:fn a vs none=some (.ok d,none)):dL fn a vs S=some (.ok (.d d),S):=by
 unfold dL;rw [h5,h6]<;>rfl
theorem mq{a:Addr}{vs:List V}{d:D}{sl dQ:Slot}(h5:vs.any V.isPtr=true)(hs:S.σ=some sl)(h6:fn a vs (some sl)=some (.ok d,some dQ)):dL fn a vs S=some (.ok (.d d),⟨S.ρ,some dQ⟩):=by
 unfold dL;rw [h5,hs];show (fn a vs (some sl)).bind _=_;rw [h6]<;>rfl
theorem wE{a i:Addr}{vs:List V}{fs:List (Str×FV)}(h5:vs.any V.isPtr=false)(h6:fn i (.ptr::vs) (some (.inst a []))=some (.ok .none,some (.inst a fs))):fz fn a i vs S=some (.ok (.d (.inst a (fs.map fun p=>(p.1,gu p.2)))),S):=by
 unfold fz;rw [h5,h6];show (iZ a _).bind _=_;rw [show iZ a (.ok .none,some (.inst a fs))=some fs from if_pos ⟨rfl,rfl⟩]<;>rfl
theorem jy{f:Expr}{args:List Expr}{p:Pos}(hh:cM ns (.Call f args [] p) S=none)(hb:(decide (args.length≤8)&&cF f p&&args.all aE)=true):
  (ah fn (k+1)).ev ns (.Call f args [] p) S=oU fn (ah fn k) ns f args S:=by
 show (cM ns (.Call f args [] p) S).elim (if decide (args.length≤8)&&cF f p&&args.all aE then oU fn (ah fn k) ns f args S else none) _=_;rw [hh,hb]<;>rfl
theorem Cl{g:Str}{q:Pos}{d:D}(hn:(g== ("__debug__":Str))=false)(h1:S.ρ.lookup g=none)(h2:ns.lookup g=some .globalImplicit)(h3:bV.lookup g=some d):(ah fn (k+1)).ev ns (.Name g q) S=some (.ok (.d d),S):=by
 rw [ed hn];unfold fI;rw [h1,h2,h3]<;>rfl
section
variable{g:Str}{q p:Pos}{args:List Expr}(hh:cM ns (.Call (.Name g q) args [] p) S=none)(hb:(decide (args.length≤8)&&cF (.Name g q) p&&args.all aE)=true)(hn:(g== ("__debug__":Str))=false)(h1:S.ρ.lookup g=none)(h2:ns.lookup g=some .globalImplicit)
include hh hb hn h1 h2
theorem fR{d:D}(h3:bV.lookup g=some d){vs:List V}{S1:St}(h:kE (ah fn (k+1)) ns args S=some (.ok vs,S1)):(ah fn (k+2)).ev ns (.Call (.Name g q) args [] p) S=ux fn d vs S1:=by
 rw [jy hh hb];show Ev.bind ((ah fn (k+1)).ev ns (.Name g q)) _ S=_;rw [ad (Cl hn h1 h2 h3)];refine (ad (m:=Nr (.d d)) (b:=d) (S1:=S) rfl).trans ?_;rw [ad h]
theorem fZ{a:Addr}(h3:bV.lookup g=some (.val (.ref a)))(hc:cw.lookup a=none)(h:WL (ah fn (k+1)) ns args S (Ta fn a Q)):WD (ah fn (k+2)) ns (.Call (.Name g q) args [] p) S Q:=by
 refine bc fun no=> ?_;obtain ⟨vs,S1,h4,h5,d,h6,hQ⟩:=h;refine no ?_;clear no;refine ⟨d,S1, ?_,hQ⟩;rw [fR hh hb hn h1 h2 h3 h4];show (cw.lookup a).elim (dL fn a vs S1) (fun c=>fz fn a c.init vs S1)=_;rw [hc];exact qS h5 h6
theorem uw{a:Addr}(h3:bV.lookup g=some (.val (.ref a)))(hc:cw.lookup a=none)(h:WL (ah fn (k+1)) ns args S (OF fn a Q)):WD (ah fn (k+2)) ns (.Call (.Name g q) args [] p) S Q:=by
 refine bc fun no=> ?_;obtain ⟨vs,S1,h4,h5,sl,d,dQ,hs,h6,hQ⟩:=h;refine no ?_;clear no;refine ⟨d,_, ?_,hQ⟩;rw [fR hh hb hn h1 h2 h3 h4];show (cw.lookup a).elim (dL fn a vs S1) (fun c=>fz fn a c.init vs S1)=_;rw [hc];exact mq h5 hs h6
theorem kG{a:Addr}{c:ClsRec}(h3:bV.lookup g=some (.val (.ref a)))(hc:cw.lookup a=some c)(h:WL (ah fn (k+1)) ns args S (OI fn a c.init Q)):
  WD (ah fn (k+2)) ns (.Call (.Name g q) args [] p) S Q:=by
 refine bc fun no=> ?_;obtain ⟨vs,S1,h4,h5,fs,h6,hQ⟩:=h;refine no ?_;clear no;refine ⟨_,S1, ?_,hQ⟩;rw [fR hh hb hn h1 h2 h3 h4];show (cw.lookup a).elim (dL fn a vs S1) (fun c=>fz fn a c.init vs S1)=_;rw [hc];exact wE h5 h6
theorem iT{id:String}(h3:bV.lookup g=some (.val (.builtin id)))(h:WL (ah fn (k+1)) ns args S (OJ id Q)):WD (ah fn (k+2)) ns (.Call (.Name g q) args [] p) S Q:=by
 refine bc fun no=> ?_;obtain ⟨vs,S1,h4,ds,d,h5,h6,hQ⟩:=h;refine no ?_;clear no;refine ⟨d,S1, ?_,hQ⟩;rw [fR hh hb hn h1 h2 h3 h4];show Ev.opt (((kR vs).bind (jg id)).map V.d) S1=_;rw [h5,Option.bind_some,h6]<;>rfl
theorem nS{id:String}(h3:bV.lookup g=some (.val (.type id)))(h:WL (ah fn (k+1)) ns args S (Oy id Q)):WD (ah fn (k+2)) ns (.Call (.Name g q) args [] p) S Q:=by
 refine bc fun no=> ?_;obtain ⟨vs,S1,h4,ds,d,h5,h6,hQ⟩:=h;refine no ?_;clear no;refine ⟨d,S1, ?_,hQ⟩;rw [fR hh hb hn h1 h2 h3 h4];show Ev.opt (((kR vs).bind (xi id)).map V.d) S1=_;rw [h5,Option.bind_some,h6]<;>rfl
end
section
variable{o:Expr}{m:Str}{ap p:Pos}{args:List Expr}(hh:cM ns (.Call (.Attribute o m ap) args [] p) S=none)(hb:(decide (args.length≤8)&&cF (.Attribute o m ap) p&&args.all aE)=true)(he:oU fn (ah fn k) ns (.Attribute o m ap) args S=sU fn (ah fn k) ns o m args S)
include hh hb he
theorem bh(h:WD (ah fn k) ns o S (Ls fn (ah fn k) ns m args Q)):WD (ah fn (k+1)) ns (.Call (.Attribute o m ap) args [] p) S Q:=by
 refine bc fun no=> ?_;obtain ⟨d,S1,h1,c,fs,f,rfl,h2,h3,vs,S2,h4,h5,d',h6,hQ⟩:=h;refine no ?_;clear no;refine ⟨d',S2, ?_,hQ⟩;rw [jy hh hb,he];show Ev.bind ((ah fn k).ev ns o) _ S=_;rw [ad h1];refine (ad (m:=jv (.d (.inst c fs)) m) (b:=some f) (S1:=S1) ?_).trans ?_
 ·show pW c (fs.lookup m).isNone m S1=_
  unfold pW;rw [h2,h3]<;>rfl
 rw [ad h4];exact qS (by rw [List.any_cons,h5];rfl) h6
theorem xI(h:WD (ah fn k) ns o S (OA (ah fn k) ns m args Q)):WD (ah fn (k+1)) ns (.Call (.Attribute o m ap) args [] p) S Q:=by
 refine bc fun no=> ?_;obtain ⟨d,S1,h1,x,rfl,h2,vs,S2,h4,ds,d',h5,h6,hQ⟩:=h;refine no ?_;clear no;refine ⟨d',S2, ?_,hQ⟩;rw [jy hh hb,he];show Ev.bind ((ah fn k).ev ns o) _ S=_;rw [ad h1];refine (ad (m:=jv (.d (.str x)) m) (b:=none) (S1:=S1) ?_).trans ?_
 ·show (if (iX.lookup m).isSome then _ else none)=_
  rw [h2]<;>rfl
 rw [ad h4];show Ev.opt (((kR vs).bind (kP x m)).map V.d) S2=_;rw [h5,Option.bind_some,h6]<;>rfl
end
theorem eg{x:Str}{xp ap p:Pos}{m:Str}{args:List Expr}(hh:cM ns (.Call (.Attribute (.Name x xp) m ap) args [] p) S=none)(hb:(decide (args.length≤8)&&cF (.Attribute (.Name x xp) m ap) p&&args.all aE)=true)(hn:(x== ("__debug__":Str))=false)
  {c:Addr} {fs:List (Str×FV)} {f:Addr} (h1:S.ρ.lookup x=some .ptr) (h2:S.σ=some (.inst c fs)) (h3:bT c m=some f) (h4:fs.lookup m=none) (h:WL (ah fn (k+1)) ns args S (S5 fn f Q)):
  WD (ah fn (k+2)) ns (.Call (.Attribute (.Name x xp) m ap) args [] p) S Q:=by
 refine bc fun no=> ?_;obtain ⟨vs,S2,h5,sl,d,dQ,h6,h7,hQ⟩:=h;refine no ?_;clear no;refine ⟨d,_, ?_,hQ⟩;rw [jy hh hb];show Ev.bind ((ah fn (k+1)).ev ns (.Name x xp)) _ S=_;have e1:(ah fn (k+1)).ev ns (.Name x xp) S=some (.ok .ptr,S):=by
  rw [ed hn];unfold fI;rw [h1]<;>rfl
 rw [ad e1];refine (ad (m:=jv .ptr m) (b:=some f) (S1:=S) ?_).trans ?_
 ·show (S.σ.bind fun sl=>(oG sl).bind fun q=>pW q.1 (q.2.lookup m).isNone m S)=_
  rw [h2];show pW c (fs.lookup m).isNone m S=_;unfold pW;rw [h3,h4]<;>rfl
 rw [ad h5];exact mq (by rw [List.any_cons];rfl) h6 h7
end
theorem eC{b:Bool}{A B:Prop}(h:b=true)(x:A):if b=true then A else B:=by rw [h];exact x
theorem bD{b:Bool}{A B:Prop}(h:b=false)(x:B):if b=true then A else B:=by rw [h];exact x
inductive Hp(x:Str)(QX:Fl→St→Prop)(d:D)(S:St):Prop where
 |mk (ρ':List (Str×Loc)) (h:upd S.ρ x (.d d)=ρ') (hQ:QX .next ⟨ρ',S.σ⟩)
inductive OL(x:Str)(QX:Fl→St→Prop)(d:D)(S:St):Prop where
 |mk (l:List D) (ρ':List (Str×Loc)) (h1:S.ρ.lookup x=some (.own l)) (h2:l.length≤1000000) (h3:upd S.ρ x (.own (l++ [d]))=ρ') (hQ:QX .next ⟨ρ',S.σ⟩)
inductive OG(x:Str)(QX:Fl→St→Prop)(d:D)(S:St):Prop where
 |mk (l l':List D) (ρ':List (Str×Loc)) (h0:d= .lst l') (h1:S.ρ.lookup x=some (.own l)) (h2:l.length+l'.length≤1000000) (h3:upd S.ρ x (.own (l++l'))=ρ') (hQ:QX .next ⟨ρ',S.σ⟩)
inductive Oz(ns:ab)(ts:List Expr)(QX:Fl→St→Prop)(d:D)(S:St):Prop where
 |mk (ds:List D) (S2:St) (h1:d= .tup ds) (h2:cR ns ts ds S=some (.ok (),S2)) (hQ:QX .next S2)
inductive Lq(ns:ab)(ts:List Expr)(QX:Fl→St→Prop)(d:D)(S:St):Prop where
 |mk (ds:List D) (S2:St) (h1:d= .tup ds) (h2:cR ns ts.reverse ds.reverse S=some (.ok (),S2)) (hQ:QX .next S2)
inductive OE(r:ba)(ns:ab)(target:Expr)(body:List Stmt)(QX:Fl→St→Prop)(d:D)(S:St):Prop where
 |mk (items:List D) (h1:dN d=some items) (h2:items.length≤2000000) (hQ:WF r ns target body items S QX)
inductive Lp(r:ba)(ns:ab)(target:Expr)(body:List Stmt)(d:D)(K:Fl→St→Prop)(S:St):Prop where
 |mk (S1:St) (h1:bR ns target d S=some (.ok (),S1)) (h2:WX r ns body S1 K)
inductive Tb{ι:Type}(r:ba)(ns:ab)(q:ey)(xs:List ι)(f:ι→D)(p:ι→Bool)(g:ι→D)(st:ι→List (Str×Loc))(ρ':List (Str×Loc))(QL:List D→St→Prop)(d:D)(S1:St):Prop where
 |mk (h1:dN d=some (xs.map f)) (h2:xs.length≤100000) (h3:cf ns S1.ρ q.sc.names=some ρ') (h4:qi S1.σ ρ'=true) (h5: ∀x∈xs,bR q.sc.names q.target (f x) ⟨ρ',S1.σ⟩=some (.ok (),⟨st x,S1.σ⟩)) (h6: ∀x∈xs,∀y,bR q.sc.names q.target (f x) ⟨st y,S1.σ⟩=some (.ok (),⟨st x,S1.σ⟩))
   (h7: ∀x∈xs,nt r q.sc.names q.ifs ⟨st x,S1.σ⟩=some (.ok (p x),⟨st x,S1.σ⟩)) (h8: ∀x∈xs,p x=true→r.ev q.sc.names q.elt ⟨st x,S1.σ⟩=some (.ok (.d (g x)),⟨st x,S1.σ⟩)) (hQ:QL ((xs.filter p).map g) S1)
noncomputable abbrev Te(x:Str)(QX:Fl→St→Prop)(l:List D)(S:St):Prop:=Hp x QX (.lst l) S
noncomputable abbrev ON(QX:Fl→St→Prop)(d:D)(S:St):Prop:=QX (.ret d) S
noncomputable abbrev Tk(r:ba)(ns:ab)(target:Expr)(body:List Stmt)(rest:List D)(QX:Fl→St→Prop)(f:Fl)(S:St):Prop:=match f with| .ret v=>QX (.ret v) S|_=>WF r ns target body rest S QX
noncomputable abbrev OO(d:D)(σ':Option Slot)(f:Fl)(S:St):Prop:=gY f=d∧S.σ=σ'
noncomputable abbrev lo(x:Str)(d:D):Str×Loc:=(x,.d d)
theorem ja{ns:ab}{x:Str}{l:Loc}{S:St}(h:(ns.lookup x==some .local||ns.lookup x==some .cell)=true):cz ns x l S=some (.ok (),{S with ρ:=upd S.ρ x l}):=by
 unfold cz;rw [if_pos h]
theorem ij{β:Type}{m:Ev β}{S S':St}{b:β}(h:m S=some (.ok b,S')):quiet m S=some (.ok b,S'):=by unfold quiet;rw [h]<;>rfl
section
variable{fn:au}{k:Nat}{ns:ab}{S:St}{Q:D→St→Prop}{QX:Fl→St→Prop}
theorem bX{x:Str}{v:Expr}{xp p:Pos}(h1:cm v=false)(h2:ke v=none)(h3:gq v=true)(h4:(ns.lookup x==some .local||ns.lookup x==some .cell)=true)
  (h:WD (ah fn k) ns v S (Hp x QX)):WS (ah fn (k+1)) ns (.Assign [.Name x xp] v p) S QX:=by
 obtain ⟨d,S1,h5,ρ',rfl,hQ⟩:=h;refine ⟨.next,_, ?_,hQ⟩;show (if cm v then _ else (ke v).elim (if gq v then ii (ah fn k) ns x v S else none) (fun q=>gk (ah fn k) ns x q S))=_;rw [h1,h2];show (if gq v then ii (ah fn k) ns x v S else none)=_;rw [if_pos h3];unfold ii;rw [ad (bJ h5),ad (ja h4)]<;>rfl
theorem Qj{x:Str}{v:Expr}{xp p:Pos}{ρ':List (Str×Loc)}(h1:cm v=true)(h4:ns.lookup x=some .local)(hu:upd S.ρ x (.own [])=ρ')(hQ:QX .next ⟨ρ',S.σ⟩):WS (ah fn (k+1)) ns (.Assign [.Name x xp] v p) S QX:=by
 refine ⟨.next,_, ?_,hQ⟩;show sS (ah fn k) ns x v S=_;unfold sS;rw [if_pos h1,h4];refine (if_pos rfl).trans ((ad (ja (by rw [h4];rfl))).trans ?_);rw [hu]<;>rfl
theorem oK{x:Str}{v:Expr}{xp p:Pos}{q:ey}(h1:cm v=false)(h2:ke v=some q)(h4:(ns.lookup x==some .local||ns.lookup x==some .cell)=true)
  (h:WC (ah fn k) ns q S (Te x QX)):WS (ah fn (k+1)) ns (.Assign [.Name x xp] v p) S QX:=by
 obtain ⟨l,S1,h5,ρ',rfl,hQ⟩:=h;refine ⟨.next,_, ?_,hQ⟩;show (if cm v then _ else (ke v).elim (if gq v then ii (ah fn k) ns x v S else none) (fun q=>gk (ah fn k) ns x q S))=_;rw [h1,h2];show gk (ah fn k) ns x q S=_;unfold gk;rw [ad h5,ad (ja h4)]<;>rfl
theorem eU{v:Expr}{q:ey}(hv:v= .ListComp q.elt [⟨q.target,q.iter,q.ifs,0⟩] q.sc q.pos)(h:WC (ah fn k) ns q S (Qg Q)):WD (ah fn (k+1)) ns v S Q:=by
 obtain ⟨l,S1,h5,hQ⟩:=h;subst hv;refine ⟨_,S1, ?_,hQ⟩;show Ev.bind (dW (ah fn k) ns q.elt q.target q.iter q.ifs q.sc) _ S=_;rw [ad h5]<;>rfl
theorem Ot{r:ba}{q:ey}{QL:List D→St→Prop}(h1:dI q.sc=true)(h2:fQ ns q.sc.names=true)(he:eG r ns q.iter S=Ev.bind (fe r ns q.iter) (fun d=>.opt (dN d)) S)
  (h:WD r ns q.iter S fun d S1=>∃items ρ' l S2,dN d=some items∧cf ns S1.ρ q.sc.names=some ρ'∧items.length≤1000000∧qi S1.σ ρ'=true∧compLoop r q.sc.names q.target q.ifs q.elt items ⟨ρ',S1.σ⟩=some (.ok l,S2)∧S2.σ.isSome=S1.σ.isSome∧QL l ⟨S1.ρ,S2.σ⟩):WC r ns q S QL:=by
 obtain ⟨d,S1,h3,items,ρ',l,S2,h4,h5,h6,h7,h8,h9,hQ⟩:=h;refine ⟨l,_, ?_,hQ⟩;unfold dW;rw [if_pos ⟨h1,h2⟩];refine (ad (b:=items) (S1:=S1) ?_).trans ?_
 ·rw [he,ad (bJ h3),h4]<;>rfl
 ·rw [h5]
  refine (if_pos ⟨h6,h7⟩).trans ?_;rw [ij h8];exact if_pos h9
theorem jK{S:St}{x:Str}{l:List D}(h:S.ρ.lookup x=some (.own l)):gH S x=some l:=by unfold gH;rw [h]<;>rfl
theorem BQ{S:St}{op:CmpOp}{x:Str}{p:Pos}{AG:Bool}{l:List D}(h1:EA op=some AG)(h2:(x== ("__debug__":Str))=false)(h3:ns.lookup x=some .local)(h4:S.ρ.lookup x=some (.own l)):gZ ns op (.Name x p) S=some (l,AG):=by
 unfold gZ;rw [h1];refine (if_pos (by rw [h2,h3];rfl)).trans ?_;rw [jK h4]<;>rfl
theorem x7{r:ba}{x m:Str}{xp ap p:Pos}{a:Expr}{l0:List D}(h0:S.ρ.lookup x=some (.own l0)):hJ r ns (.Call (.Attribute (.Name x xp) m ap) [a] [] p) S=DH r ns ⟨x,m,a,ap.endLine==p.line⟩ S:=by
 show (gH S x).elim (sT r ns (.Call (.Attribute (.Name x xp) m ap) [a] [] p) S) _=_;rw [jK h0]<;>rfl
theorem jk{x:Str}{xp ap p p':Pos}{a:Expr}(hx:(x== ("__debug__":Str))=false)(hl:(ap.endLine==p.line)=true)(hn:ns.lookup x=some .local)(ha:aE a=true){l0:List D}(h0:S.ρ.lookup x=some (.own l0))
  (h:WD (ah fn k) ns a S (OL x QX)):WS (ah fn (k+1)) ns (.Expr (.Call (.Attribute (.Name x xp) "append" ap) [a] [] p) p') S QX:=by
 obtain ⟨d,S1,h1,l,ρ',h2,h3,rfl,hQ⟩:=h;refine ⟨.next,_, ?_,hQ⟩;refine (x7 h0 (m:="append")).trans ((if_pos (by rw [hn,hx,hl,ha];rfl)).trans ?_);show eW (ah fn k) ns x false a S=_;unfold eW;refine (ad (bJ h1)).trans ?_;rw [jK h2];exact if_pos h3
theorem Hy{x:Str}{xp ap p p':Pos}{a:Expr}(hx:(x== ("__debug__":Str))=false)(hl:(ap.endLine==p.line)=true)(hn:ns.lookup x=some .local)(ha:aE a=true){l0:List D}(h0:S.ρ.lookup x=some (.own l0))
  (h:WD (ah fn k) ns a S (OG x QX)):WS (ah fn (k+1)) ns (.Expr (.Call (.Attribute (.Name x xp) "extend" ap) [a] [] p) p') S QX:=by
 obtain ⟨d,S1,h1,l,l',ρ',rfl,h2,h3,rfl,hQ⟩:=h;refine ⟨.next,_, ?_,hQ⟩;refine (x7 h0 (m:="extend")).trans ((if_pos (by rw [hn,hx,hl,ha];rfl)).trans ?_);show eW (ah fn k) ns x true a S=_;unfold eW;refine (ad (bJ h1)).trans ?_;rw [jK h2];exact if_pos h3
theorem bC{t:Expr}{a b:List Stmt}{p:Pos}(h:WB (ah fn k) ns t S fun c S1=>if c=true then WX (ah fn k) ns a S1 QX else WX (ah fn k) ns b S1 QX):WS (ah fn (k+1)) ns (.If t a b p) S QX:=by
 obtain ⟨c,S1,h1,h2⟩:=h
 cases c with
 |true=>
  obtain ⟨f,S2,h3,hQ⟩:=h2;exact ⟨f,S2,(ad h1).trans h3,hQ⟩
 |false=>
  obtain ⟨f,S2,h3,hQ⟩:=h2;exact ⟨f,S2,(ad h1).trans h3,hQ⟩
theorem cC{e:Expr}{p:Pos}(h:WD (ah fn k) ns e S (ON QX)):WS (ah fn (k+1)) ns (.Return (some e) p) S QX:=by
 obtain ⟨d,S1,h1,hQ⟩:=h;exact ⟨_,S1,(ad (bJ h1)).trans rfl,hQ⟩
theorem ui{ts:List Expr}{i:Nat}{v:Expr}{q p:Pos}(hk:kV ns ts v=some false)(h:WD (ah fn k) ns v S (Oz ns ts QX)):WS (ah fn (k+1)) ns (.Assign [.Tuple ts i q] v p) S QX:=by
 obtain ⟨d,S1,h1,ds,S2,rfl,h2,hQ⟩:=h;refine ⟨.next,S2, ?_,hQ⟩;show nR (ah fn k) ns ts i q v S=_;unfold nR;rw [hk];refine (ad (bJ h1)).trans ?_;refine (ad (b:=()) (S1:=S2) ?_).trans rfl;exact h2
theorem sG{ts:List Expr}{i:Nat}{v:Expr}{q p:Pos}(hk:kV ns ts v=some true)(h:WD (ah fn k) ns v S (Lq ns ts QX)):WS (ah fn (k+1)) ns (.Assign [.Tuple ts i q] v p) S QX:=by
 obtain ⟨d,S1,h1,ds,S2,rfl,h2,hQ⟩:=h;refine ⟨.next,S2, ?_,hQ⟩;show nR (ah fn k) ns ts i q v S=_;unfold nR;rw [hk];refine (ad (bJ h1)).trans ?_;exact (ad h2).trans rfl
theorem fM{target iter:Expr}{body:List Stmt}{p:Pos}(he:f9 (ah fn k) ns target iter S=Ev.bind (fe (ah fn k) ns iter) (fun d=>.opt (dN d)) S)
  (h:WD (ah fn k) ns iter S (OE (ah fn k) ns target body QX)):WS (ah fn (k+1)) ns (.For target iter body [] p) S QX:=by
 obtain ⟨d,S1,h1,items,h2,h3,f,S2,h4,hQ⟩:=h;refine ⟨f,S2, ?_,hQ⟩;show Ev.bind (f9 (ah fn k) ns target iter) _ S=_;refine (ad (b:=items) (S1:=S1) ?_).trans ?_
 ·rw [he,ad (bJ h1),h2]<;>rfl
 ·exact (if_pos h3).trans (ij h4)
theorem xT{target iter:Expr}{body:List Stmt}{p:Pos}{items:List D}{S1:St}(he:f9 (ah fn k) ns target iter S=some (.ok items,S1))(hl:items.length≤2000000)
  (h:WF (ah fn k) ns target body items S1 QX):WS (ah fn (k+1)) ns (.For target iter body [] p) S QX:=by
 obtain ⟨f,S2,h4,hQ⟩:=h;refine ⟨f,S2, ?_,hQ⟩;show Ev.bind (f9 (ah fn k) ns target iter) _ S=_;exact (ad he).trans ((if_pos hl).trans (ij h4))
theorem DG{r:ba}{target:Expr}{body:List Stmt}(hQ:QX .next S):WF r ns target body [] S QX:=⟨.next,S,rfl,hQ⟩
theorem oT{r:ba}{target:Expr}{body:List Stmt}{d:D}{rest:List D}{S1:St}(ha:bR ns target d S=some (.ok (),S1))(h:WX r ns body S1 (Tk r ns target body rest QX)):WF r ns target body (d::rest) S QX:=by
 obtain ⟨f,S2,h1,h2⟩:=h
 cases f with
 |ret v=>exact ⟨_,S2,(ad ha).trans (ad h1),h2⟩
 |next=>
  obtain ⟨g,S3,h3,hQ⟩:=h2;exact ⟨g,S3,(ad ha).trans ((ad h1).trans h3),hQ⟩
 |cont=>
  obtain ⟨g,S3,h3,hQ⟩:=h2;exact ⟨g,S3,(ad ha).trans ((ad h1).trans h3),hQ⟩
theorem fk{ι:Type}{r:ba}{target:Expr}{body:List Stmt}(f:ι→D)(rel:List ι→St→Prop)(xs:List ι)(h: ∀pre x post,xs=pre++x::post→∀S,rel pre S→Lp r ns target body (f x) (fun fl S2=>(∀v,fl≠ .ret v)∧rel (pre++ [x]) S2) S)(h0:rel [] S)
  (hQ: ∀S',rel xs S'→QX .next S'):WF r ns target body (xs.map f) S QX:=by
 have key: ∀(post pre:List ι),xs=pre++post→∀S,rel pre S→WF r ns target body (post.map f) S QX:=by
  intro post
  induction post with
  |nil=>intro pre e S hS;rw [List.append_nil] at e;exact DG (hQ S (e▸hS))
  |cons x xs' ih=>
   intro pre e S hS;obtain ⟨S1,h1,fl,S2,h2,h3,h4⟩:=h pre x xs' e S hS;refine oT h1 ⟨fl,S2,h2, ?_⟩;have:=ih (pre++ [x]) (by rw [e,List.append_assoc];rfl) S2 h4
   cases fl with
   |ret v=>exact absurd rfl (h3 v)
   |next=>exact this
   |cont=>exact this
 exact key xs [] rfl S h0
theorem Li{ι:Type}{r:ba}{names:ab}{target elt:Expr}{ifs:List Expr}(f:ι→D)(p:ι→Bool)(g:ι→D)(st:ι→St)(S0:St): ∀(xs:List ι) (S:St),(S=S0∨∃y,S=st y)→(∀x∈xs,bR names target (f x) S0=some (.ok (),st x))→(∀x∈xs,∀y,bR names target (f x) (st y)=some (.ok (),st x))→
  (∀x∈xs,nt r names ifs (st x)=some (.ok (p x),st x))→(∀x∈xs,p x=true→r.ev names elt (st x)=some (.ok (.d (g x)),st x))→∃S',compLoop r names target ifs elt (xs.map f) S=some (.ok ((xs.filter p).map g),S')∧(S'=S0∨∃y,S'=st y):=by
 intro xs
 induction xs with
 |nil=>intro S hS _ _ _ _;exact ⟨S,rfl,hS⟩
 |cons x xs ih=>
  intro S hS h0 h1 h2 h3;have ha:bR names target (f x) S=some (.ok (),st x):=by
   rcases hS with rfl|⟨y,rfl⟩
   ·exact h0 x List.mem_cons_self
   ·exact h1 x List.mem_cons_self y
  obtain ⟨S',e,Nh⟩:=ih (st x) (.inr ⟨x,rfl⟩) (fun y m=>h0 y (List.mem_cons_of_mem _ m)) (fun y m=>h1 y (List.mem_cons_of_mem _ m)) (fun y m=>h2 y (List.mem_cons_of_mem _ m)) (fun y m=>h3 y (List.mem_cons_of_mem _ m));refine ⟨S', ?_,Nh⟩;rw [List.map_cons,pA,ad ha,ad (h2 x List.mem_cons_self),List.filter_cons]
  cases hp:p x with
  |true=>
   simp only [if_true];rw [ad (bJ (h3 x List.mem_cons_self hp)),ad e]<;>rfl
  |false=>
   simp only [Bool.false_eq_true,if_false];exact e
theorem jX{ι:Type}{r:ba}{q:ey}{QL:List D→St→Prop}(xs:List ι)(f:ι→D)(p:ι→Bool)(g:ι→D)(st:ι→List (Str×Loc))(ρ':List (Str×Loc))(h1:dI q.sc=true)(h2:fQ ns q.sc.names=true)(he:eG r ns q.iter S=Ev.bind (fe r ns q.iter) (fun d=>.opt (dN d)) S)
  (h:WD r ns q.iter S (Tb r ns q xs f p g st ρ' QL)):WC r ns q S QL:=by
 obtain ⟨d,S1,h3,h4,h5,h6,h7,h8,h9,AO,Gf,hQ⟩:=h;obtain ⟨S',e,hS⟩:=Li (r:=r) (f:=f) (p:=p) (g:=g) (st:=fun x=>⟨st x,S1.σ⟩) (S0:=⟨ρ',S1.σ⟩) xs _ (.inl rfl) h8 h9 AO Gf;have hs:S'.σ=S1.σ:=by rcases hS with rfl|⟨y,rfl⟩<;>rfl
 refine Ot h1 h2 he ⟨d,S1,h3,_,ρ',_,S',h4,h6,by rw [List.length_map];exact Nat.le_trans h5 (by decide),h7,e,by rw [hs], ?_⟩;rw [hs];exact hQ
end
theorem bo{n:Nat}{a:Addr}{F:dj}{st:Stmt}{args:List V}{σ σ':Option Slot}{d:D}{ρ0:List (Str×Loc)}(hF:lC.lookup a=some F)(lx:(a==857)=false)(vn:gS F args.length=true)(hρ:ej F args=ρ0)(em:F.st=st)
  (h:WX (ah (run n) 60) (ai st).names (ak st) ⟨ρ0,σ⟩ (OO d σ')):run (n+1) a args σ=some (.ok d,σ'):=by
 obtain ⟨f,S,h1,rfl,rfl⟩:=h;refine (if_neg (fun e=>by rw [e] at lx;exact nomatch lx)).trans ?_;rw [hF];subst em hρ;obtain ⟨h2,h3⟩:=Bool.and_eq_true_iff.mp vn;refine (if_pos ⟨of_decide_eq_true h2,of_decide_eq_true h3⟩).trans ?_;have Gg:lj (ah (run n) 60) (ai F.st).names (ak F.st) ⟨(bq F.st).zip (args.map kC++ (F.defs.drop (args.length+F.defs.length - (bq F.st).length)).map .d),σ⟩=some (.ok f,S):=h1;rw [Gg]<;>rfl
noncomputable def Tl(ns:List Str)(t:List (Str×Loc)):Prop:=t= []∨t.map Prod.fst=ns
theorem Hu{x:Str}{b:Loc}{ns:List Str}{t:List (Str×Loc)}(k:Nat)(h:t.map Prod.fst=ns)(e:ns[k]? =some x):upd (t.drop k) x b= (x,b)::t.drop (k+1):=by
 subst h
 induction t generalizing k with
 |nil=>exact nomatch e
 |cons p r ih=>
  cases k with
  |zero=>obtain rfl:p.1=x:=Option.some.inj e;exact Qv (c:=p.2)
  |succ k=>exact ih k e
theorem ES{ns:List Str}{t:List (Str×Loc)}(h:Tl ns t){k:Nat}(e:ns.length=k):t.drop k= []:=
 List.drop_eq_nil_of_le (e▸h.elim (fun h=>h▸Nat.zero_le _) fun h=>Nat.le_of_eq (h▸List.length_map _).symm)
theorem Tl.up{ns:List Str}{t:List (Str×Loc)}{x:Str}{b:Loc}(h:Tl ns t){k:Nat}(e:ns[k]? =some x):upd (t.drop k) x b= (x,b)::t.drop (k+1):=
 h.elim (fun h=>by rw [h,List.drop_nil,List.drop_nil];rfl) fun h=>Hu k h e
theorem Tl.upL{ns:List Str}{t:List (Str×Loc)}{x:Str}{b:Loc}(h:Tl ns t){k:Nat}(e:ns[k]? =some x)(l:ns.length=k+1):upd (t.drop k) x b= [(x,b)]:=(h.up e).trans (by rw [ES h l])
theorem Tl.up1{ns:List Str}{t:List (Str×Loc)}{x:Str}{b:Loc}(h:Tl (x::ns) t):upd t x b= (x,b)::t.drop 1:=h.up (k:=0) rfl
theorem Bm{x:Str}{t:List (Str×Loc)}:(∀y∈t.map Prod.fst,(x==y)=false)→t.lookup x=none:=by
 induction t with
 |nil=>exact fun _=>rfl
 |cons p r ih=>exact fun h=>QW (y:=p.1) (c:=p.2) (h p.1 List.mem_cons_self) (ih fun z m=>h z (List.mem_cons_of_mem _ m))
theorem Tl.look{ns:List Str}{t:List (Str×Loc)}{x:Str}(h:Tl ns t){k:Nat}(e:(ns.all fun y=>x !=y)=true):(t.drop k).lookup x=none:=
 h.elim (fun h=>by rw [h,List.drop_nil];rfl) fun h=>Bm fun y m=>by
  rw [List.map_drop,h] at m
  simpa using List.all_eq_true.mp e y (List.mem_of_mem_drop m)
theorem Tl.two{ns:List Str}{t:List (Str×Loc)}(h:Tl ns t){k:Nat}{x y:Str}(e:ns.drop k= [x,y]):t.drop k= []∨∃a b,t.drop k= [(x,a),(y,b)]:=by
 rcases h with h|h
 ·exact .inl (by rw [h,List.drop_nil])
 rw [←h, ←List.map_drop] at e;generalize t.drop k=u at e
 cases u with
 |nil=>exact nomatch e
 |cons p u=>
  obtain ⟨e1,e⟩:=List.cons.inj e
  cases u with
  |nil=>exact nomatch e
  |cons q u=>
   obtain ⟨e2,e3⟩:=List.cons.inj e
   cases u with
   |nil=>exact .inr ⟨p.2,q.2,by rw [←e1, ←e2]⟩
   |cons _ _=>exact nomatch e3
theorem Tl.look0{ns:List Str}{t:List (Str×Loc)}{x:Str}(h:Tl ns t)(e:(ns.all fun y=>x !=y)=true):t.lookup x=none:=h.look (k:=0) e
noncomputable def Nw:List Str→(List (Str×Loc)→Prop)→Prop
 |[],P=>P []
 |x::r,P=>∀c,Nw r fun l=>P ((x,c)::l)
theorem yr: ∀(l:List (Str×Loc)) (P:List (Str×Loc)→Prop),Nw (l.map Prod.fst) P→P l
 |[],_,h=>h
 |(_,c)::r,_,h=>yr r _ (h c)
theorem Tl.all{ns:List Str}{t l:List (Str×Loc)}(h:Tl ns t){k:Nat}(e:t.drop k=l){P:List (Str×Loc)→Prop}(h0:P [])(h1:Nw (ns.drop k) P):P l:=by
 rcases h with h|h
 ·rw [h,List.drop_nil] at e;exact e▸h0
 ·rw [←h, ←List.map_drop,e] at h1;exact yr l P h1
local macro_rules | `(tactic|walk_at "l")=>do `(tactic|((try dsimp only);repeat ($(←wf (Lean.mkIdent `u) "w TS |w Ey |s s |r xl k?|r QW k?|e rfl |e Tl.look ak|e Tl.look0 ak"):tactic)))
local macro_rules | `(tactic|walk_at "u")=>do `(tactic|repeat ($(←wf (Lean.mkIdent `u) "w Qv |p up1 k|e Qv |e Tl.upL arr|e Tl.up ar|e Tl.up1 a|e TA "):tactic))
local macro_rules | `(tactic|walk_at "o")=> `(tactic|(conv=>lhs;unfold bB bg pw;whnf))
local macro_rules | `(tactic|walk_at "w")=>do `(tactic|((try dsimp only); $(←wf (Lean.mkIdent `u) "r aj r?|r af kl?|r nT kllu?|r eP ?|r xJ r?|r aF r?|r Bc ?|r fO ?|r bu ?|r bj ?|r dw ?|r dB ?|r fq r?|r DI r?|r aI r?|r bn ?|r aL r?|r lN ?|r oX r?|r uv r?|r ft r?|r x9 ?|r oS ?|r aa ?|r aO ?|r cC ?|r bC ?|r Qj rlu?|r bX rrrk?|x x ")))
structure Hd where
 sec:Str
 below:D
 word:Str
 isec:Str
 iname:Str
 key:Str
noncomputable def aX:List Hd:=[
 ⟨"core",.none,"flag","core","flag","core.flag"⟩,⟨"core",.none,"Size","core","size","core.size"⟩,⟨"Core",.none,"flag","core","flag","core.flag"⟩,⟨"Core",.none,"Size","core","size","core.size"⟩,
 ⟨"remote",dS "origin","fetch","remote.origin","fetch","remote.origin.fetch"⟩,⟨"remote",dS "origin","push","remote.origin","push","remote.origin.push"⟩,⟨"remote",dS "origin","flag","remote.origin","flag","remote.origin.flag"⟩,⟨"remote",dS "origin","Size","remote.origin","size","remote.origin.size"⟩,
 ⟨"remote",dS "Mine","fetch","remote.Mine","fetch","remote.Mine.fetch"⟩,⟨"remote",dS "Mine","push","remote.Mine","push","remote.Mine.push"⟩,⟨"remote",dS "Mine","flag","remote.Mine","flag","remote.Mine.flag"⟩,⟨"remote",dS "Mine","Size","remote.Mine","size","remote.Mine.size"⟩,
 ⟨"branch",dS "main","remote","branch.main","remote","branch.main.remote"⟩,⟨"branch",dS "main","merge","branch.main","merge","branch.main.merge"⟩,⟨"branch",dS "main","flag","branch.main","flag","branch.main.flag"⟩,⟨"branch",dS "main","Size","branch.main","size","branch.main.size"⟩,
 ⟨"url",dS "git://a/","insteadOf","url.git://a/","insteadof","url.git://a/.insteadof"⟩,⟨"url",dS "git://a/","pushInsteadOf","url.git://a/","pushinsteadof","url.git://a/.pushinsteadof"⟩,
 ⟨"url",dS "git://b/","insteadOf","url.git://b/","insteadof","url.git://b/.insteadof"⟩,⟨"url",dS "git://b/","pushInsteadOf","url.git://b/","pushinsteadof","url.git://b/.pushinsteadof"⟩,
 ⟨"url",dS "ssh://c/","insteadOf","url.ssh://c/","insteadof","url.ssh://c/.insteadof"⟩,⟨"url",dS "ssh://c/","pushInsteadOf","url.ssh://c/","pushinsteadof","url.ssh://c/.pushinsteadof"⟩]
noncomputable def bU:List D:=[D.none,dS "",dS "true",dS "YES",dS "on",dS "false",dS "No",dS "off",dS "0",dS "7",dS "2k",dS "-1m",dS "0x1F",dS "010",dS "08",dS "maybe",dS "3g",dS "1 2",dS "9223372036854775807",dS "9223372036854775808",dS "+5"]
noncomputable def cq(h:Hd):List D:=
 if h.iname=="flag"||h.iname=="size" then bU else if h.iname=="fetch"||h.iname=="push" then [dS "+a:b",dS "c",dS "^d",dS "e/*:f/*"]
 else if h.iname=="remote"||h.iname=="merge" then [dS "origin",dS "refs/x"] else if h.isec=="url.git://a/" then [dS "A:"] else if h.isec=="url.git://b/" then [dS "A:x/"] else [dS "B"]
structure Rw where
 h:Hd
 v:D
noncomputable def cW(r:Rw):Prop:=r.h∈aX∧r.v∈cq r.h
noncomputable def dn(r:Rw):D:=.tup [.str r.h.sec,r.h.below,.str r.h.word,r.v]
noncomputable def gG(r:Rw):D:=.tup [.str r.h.key,r.v]
noncomputable def ca(word:Str)(raw:List UInt8)(sec name:D)(value fg:D):D:=.inst 197 [("word",.str word),("raw",.bytes raw),("section",sec),("name",name),("value",value),("spelt",fg)]
structure Pc where
 r:Rw
 b1:List UInt8
 b2:List UInt8
 b3:List UInt8
noncomputable def p1(c:Pc):D:=ca "section" c.b1 (.str c.r.h.isec) (dS "") .none (dS "")
noncomputable def p2(c:Pc):D:=ca "gap" c.b2 (dS "") (dS "") .none (dS "")
noncomputable def p3(c:Pc):D:=ca "value" c.b3 (.str c.r.h.isec) (.str c.r.h.iname) c.r.v (.str c.r.h.word)
inductive Pk where
 |s (c:Pc)|g (c:Pc)|v (c:Pc)
noncomputable def lf:Pk→D
 | .s c=>p1 c
 | .g c=>p2 c
 | .v c=>p3 c
noncomputable def kN:List Pc→List Pk
 |[]=>[]
 |c::r=>.s c:: .g c:: .v c::kN r
noncomputable def LU:Pk→Bool
 | .v _=>true
 |_=>false
noncomputable def gE:Pk→Rw
 | .s c=>c.r
 | .g c=>c.r
 | .v c=>c.r
theorem HD{β:Type}(g:Rw→β)(cs:List Pc):((kN cs).filter LU).map (fun x=>g (gE x))=cs.map fun c=>g c.r:=by
 induction cs with
 |nil=>rfl
 |cons c r ih=>exact congrArg (g c.r:: ·) ih
theorem iD(cs:List Pc):(kN cs).length=3*cs.length:=by
 induction cs with
 |nil=>rfl
 |cons c r ih=>exact congrArg (· +3) ih
theorem ph{x:Pk}{cs:List Pc}:x∈kN cs→∃c∈cs,gE x=c.r:=by
 induction cs with
 |nil=>exact fun m=>nomatch m
 |cons c r ih=>
  exact fun m=>(List.mem_cons.mp m).elim (fun e=>⟨c,List.mem_cons_self,e▸rfl⟩) fun m=>(List.mem_cons.mp m).elim (fun e=>⟨c,List.mem_cons_self,e▸rfl⟩) fun m=>(List.mem_cons.mp m).elim (fun e=>⟨c,List.mem_cons_self,e▸rfl⟩)
   fun m=>(ih m).elim fun c' h=>⟨c',List.mem_cons_of_mem _ h.1,h.2⟩
theorem lO{β:Type}{f g:Hd→β}(e:aX.map f=aX.map g): ∀h:Hd,h∈aX→f h=g h:=fun h m=>List.map_inj_left.mp e h m
noncomputable def E6:D→Bool
 | .none=>true
 | .str x=>decide (x.length≤40)
 |_=>false
theorem te:(aX.all fun h=>(cq h).all E6)=true:=by kernel_rfl
theorem nU{r:Rw}(h:cW r):r.v= .none∨∃x:Str,r.v= .str x∧x.length≤40:=by
 have:=List.all_eq_true.mp (List.all_eq_true.mp te r.h h.1) r.v h.2
 cases hv:r.v<;>rw [hv] at this<;>first|cases this|skip
 ·exact .inl rfl
 ·exact .inr ⟨_,rfl,of_decide_eq_true this⟩
noncomputable def cL(cs:List Pc):D:=.inst 575 [("pieces",.lst ((kN cs).map lf))]
noncomputable def cY(cs:List Pc):Prop:=cs.length≤100∧∀c∈cs,cW c.r
theorem bw{l:List D}(h:l.length≤100000):dN (.lst l)=some l:=if_pos (Nat.le_trans h (by decide))
theorem zJ{n:Nat}{cs:List Pc}(hc:cY cs):run (n+1) 445 [.d (cL cs)] none=some (.ok (.lst (cs.map fun c=>gG c.r)),none):=by
 refine bo (F:=⟨bB 47 2,[]⟩) (by kernel_rfl) rfl (by kernel_rfl) (ρ0:=[("self",.d (.inst 575 [("pieces",.lst ((kN cs).map lf))]))]) (by kernel_rfl) (by walk_at "o") ?_
 try dsimp only [ai,ak]
 have aP:((kN cs).map lf).length≤100000:=by rw [List.length_map,iD];have:=hc.1;lia
 refine aa (cC (eU (q:=⟨_,_,_,_,_,_⟩) rfl (jX (kN cs) lf LU (fun x=>gG (gE x)) (fun x=>[("piece",.d (lf x))]) [] rfl rfl rfl ?_)))
 try dsimp only
 walk_at "w"
 walk_at "w"
 refine ⟨_,_,_,rfl,by kernel_rfl,rfl,bw aP,by rw [iD];have:=hc.1;lia,rfl,rfl,fun x _=>by cases x<;>rfl,fun x _ y=>by cases x<;>rfl,fun x m=> ?_,fun x m hv=> ?_, ?_⟩
 ·obtain ⟨⟨h,v⟩,b1,b2,b3⟩|⟨⟨h,v⟩,b1,b2,b3⟩|⟨⟨h,v⟩,b1,b2,b3⟩:=x<;>kernel_rfl
 ·obtain ⟨c,mc,ec⟩:=ph m
  have hr:=hc.2 c mc;rw [←ec] at hr;have hh:=hr.1;have AJ:=nU hr;obtain ⟨⟨h,v⟩,b1,b2,b3⟩|⟨⟨h,v⟩,b1,b2,b3⟩|⟨⟨h,v⟩,b1,b2,b3⟩:=x
  ·cases hv
  ·cases hv
  ·dsimp only [gE] at hh AJ
   clear m ec hv hr;rcases AJ with rfl|⟨x,rfl,_⟩
   ·revert h
    exact lO (by kernel_rfl)
   ·revert h
    exact lO (by kernel_rfl)
 ·exact ⟨congrArg D.lst (HD gG cs),rfl⟩
local macro_rules | `(tactic|walk_at "t")=> `(tactic|(conv=>lhs;unfold bg pw;whnf))
noncomputable def i4:D:=.inst 611 [("gitdir",dS ""),("branch",.none),("home",dS "")]
noncomputable def lB:D:=.val (.ref 666)
noncomputable def ye(cs:List Pc):D:=.lst (cs.map fun c=>gG c.r)
theorem Ce{n:Nat}{cs:List Pc}(hc:cY cs):run (n+2) 637 [.d (cL cs),.d lB,.d i4,.d (dS "")] none=some (.ok (ye cs),none):=by
 refine bo (F:=⟨bg 51,[dS "",.int 0]⟩) (by kernel_rfl) rfl (by kernel_rfl) (ρ0:=[("config",.d (cL cs)),("loader",.d lB),("facts",.d i4),("folder",.d (dS "")),("depth",.d (.int 0))]) (by kernel_rfl) (by walk_at "t") ?_
 try dsimp only [ai,ak]
 refine aa (E0 (by kernel_rfl) ?_);walk_at "w"
 walk_at "w"
 refine aa (fM rfl (bh rfl rfl rfl (af (by decide+kernel) (by walk_at "l") ⟨575,_,445,rfl,by kernel_rfl,rfl,bn ⟨rfl,_,zJ hc, ?_⟩⟩)));have hl: ∀pre x post,cs=pre++x::post→pre.length≤100:=fun pre x post e=>by have:=hc.1;rw [e,List.length_append] at this;lia
 let base:List Pc→List (Str×Loc):=fun pre=>[("config",.d (cL cs)),("loader",.d lB),("facts",.d i4),("folder",.d (dS "")),("depth",.d (.int 0)),("found",.own (pre.map fun c=>gG c.r))]
 let so:D→D→List (Str×Loc):=fun k v=>[("key",.d k),("value",.d v),("condition",.d .none),("is_asked",.d (.bool false))]
 refine ⟨_,bw (by rw [List.length_map];have:=hc.1;lia),by rw [List.length_map];have:=hc.1;lia, ?_⟩;refine fk (fun c:Pc=>gG c.r) (fun pre S=>S= ⟨base pre,none⟩∨∃k v,S= ⟨base pre++so k v,none⟩) cs (fun pre c post e S hS=> ?_) (.inl rfl) (fun S hS=> ?_)
 ·have hr:=hc.2 c (by rw [e];simp)
  have hp:=hl pre c post e;obtain ⟨⟨h,v⟩,b1,b2,b3⟩:=c;have hh:=hr.1;dsimp only at hh;clear hr e;rcases hS with rfl|⟨k0,v0,rfl⟩
  refine ⟨⟨base pre++ [lo "key" (.str h.key),lo "value" v],none⟩,rfl, ?_⟩
  rotate_left
  refine ⟨⟨base pre++ [lo "key" (.str h.key),lo "value" v,lo "condition" .none,lo "is_asked" (.bool false)],none⟩,rfl, ?_⟩
  all_goals
   try dsimp only [base,List.cons_append,List.nil_append]
   refine aa (jk rfl rfl (by walk_at "l") rfl (by walk_at "l") ?_);iterate 6 walk_at "w"
   refine ⟨_,_,by walk_at "l",by rw [List.length_map];lia,by walk_at "u", ?_⟩;refine Ml .next ⟨[("config",.d (cL cs)),("loader",.d lB),("facts",.d i4),("folder",.d (dS "")),("depth",.d (.int 0)),("found",.own (pre.map (fun c=>gG c.r)++ [.tup [.str h.key,v]])),lo "key" (.str h.key),lo "value" v,lo "condition" .none,lo "is_asked" (.bool false)],none⟩ ?_ ⟨fun v e=>(nomatch e),.inr ⟨.str h.key,v, ?_⟩⟩
   ·revert h
    exact lO (by kernel_rfl)
   ·rw [List.map_append];rfl
 ·dsimp only [base] at hS
  rcases hS with rfl|⟨k0,v0,rfl⟩
  all_goals
   try dsimp only [List.cons_append,List.nil_append]
   iterate 2 walk_at "w"
   refine nT (by decide+kernel) (by walk_at "l") (by walk_at "l") (by walk_at "u") ⟨rfl,rfl⟩
noncomputable def cX(k:Nat)(d:D):Prop:=∃p,d.py=some p∧p.canLay0=true∧p.depth≤k
theorem l5{k:Nat}{l:List D}:(∀d∈l,cX k d)→∃ps,gV l=some ps∧PyData.canLayAll0 ps=true∧PyData.depthAll ps≤k∧ps.length=l.length:=by
 induction l with
 |nil=>exact fun _=>⟨[],rfl,rfl,Nat.zero_le _,rfl⟩
 |cons d l ih=>
  intro h;obtain ⟨p,h1,h2,h3⟩:=h d List.mem_cons_self;obtain ⟨ps,g1,g2,g3,g4⟩:=ih fun x m=>h x (List.mem_cons_of_mem _ m);exact ⟨p::ps,by show (d.py.bind fun p=>(gV l).map (p:: ·))=_;rw [h1,g1];rfl,Bool.and_eq_true_iff.mpr ⟨h2,g2⟩,Nat.max_le.mpr ⟨h3,g3⟩,congrArg (· +1) g4⟩
theorem ik{k:Nat}{l:List D}(h: ∀d∈l,cX k d):cX (k+1) (.lst l):=by
 obtain ⟨ps,g1,g2,g3,_⟩:=l5 h;exact ⟨.list ps,congrArg (Option.map _) g1,by rw [PyData.canLay0];exact g2,by rw [PyData.depth];exact Nat.succ_le_succ g3⟩
theorem qy{k:Nat}{l:List D}(h: ∀d∈l,cX k d):cX (k+1) (.tup l):=by
 obtain ⟨ps,g1,g2,g3,_⟩:=l5 h;exact ⟨.tuple ps,congrArg (Option.map _) g1,by rw [PyData.canLay0];exact g2,by rw [PyData.depth];exact Nat.succ_le_succ g3⟩
theorem eE{k m:Nat}{d:D}(h:cX k d)(hk:k≤m):cX m d:=let ⟨p,a,b,c⟩:=h;⟨p,a,b,Nat.le_trans c hk⟩
theorem yt{a b:D}{p q:PyData}{r:Bool}(h1:a.py=some p)(h2:b.py=some q)(h:AP p q=some r):AQ a b=some r:=by
 have e:D0 a b AP=some r:=by unfold D0;rw [h1,h2];exact h
 unfold AQ;rw [e]<;>rfl
theorem qV{d:D}(h:cX 64 d):AQ d d=some true:=by
 obtain ⟨p,h1,h2,h3⟩:=h;have hp:fK p=true:=by unfold fK;rw [h2,decide_eq_true h3];rfl
 have e:AP p p=some true:=by
  by_cases hs: ∃x,p= .str x
  ·obtain ⟨x,rfl⟩:=hs
   show some (x==x)=_;rw [beq_self_eq_true]
  ·have:AP p p=if fK p&&fK p then some (PyData.eqv p p) else none:=by
    cases p<;>first|rfl|exact absurd ⟨_,rfl⟩ hs
   rw [this,hp];exact (if_pos rfl).trans (congrArg some (SeqAt.eqv_refl _ h2))
 exact yt h1 h1 e
theorem Cs{l:List D}(h: ∀d∈l,cX 60 d):AQ (.lst l) (.lst [])=some l.isEmpty:=by
 obtain ⟨ps,g1,g2,g3,g4⟩:=l5 h;refine yt (p:=.list ps) (q:=.list []) (congrArg (Option.map _) g1) rfl ?_;show (if fK (.list ps)&&fK (.list []) then some (PyData.eqv (.list ps) (.list [])) else none)=_;have hp:fK (.list ps)=true:=by
  unfold fK;rw [PyData.canLay0,g2,PyData.depth,decide_eq_true (Nat.le_trans (Nat.succ_le_succ g3) (by decide))];rfl
 rw [hp,show fK (.list [])=true from by kernel_rfl]
 cases l with
 |nil=>cases ps with|nil=>rfl|cons=>cases g4
 |cons=>cases ps with|nil=>cases g4|cons=>rfl
noncomputable def Gb(d:D):Bool:=match d.py with
 |some p=>p.canLay0&&decide (p.depth≤0)
 |none=>false
theorem oR{d:D}(h:Gb d=true):cX 0 d:=by
 unfold Gb at h
 split at h
 ·rename_i p e
  rw [Bool.and_eq_true,decide_eq_true_eq] at h;exact ⟨p,e,h.1,h.2⟩
 ·cases h
theorem Bi:(aX.all fun h=>(cq h).all Gb)=true:=by kernel_rfl
theorem EN{r:Rw}(h:cW r):cX 0 r.v:=oR (List.all_eq_true.mp (List.all_eq_true.mp Bi r.h h.1) r.v h.2)
noncomputable def dr(l:Str×List Pc):D:=.inst 655 [("word",.str l.1),("config",cL l.2),("folder",dS "")]
noncomputable def aS(ls:List (Str×List Pc)):D:=.inst 774 [("levels",.lst (ls.map dr)),("loader",lB),("facts",i4)]
noncomputable def ao(ls:List (Str×List Pc)):List Pc:=ls.flatMap (·.2)
noncomputable def gO(ls:List (Str×List Pc)):Prop:=ls.length≤10∧(ao ls).length≤100∧∀l∈ls,cY l.2
theorem gO.all{ls:List (Str×List Pc)}(h:gO ls):cY (ao ls):=⟨h.2.1,fun c m=>by
 obtain ⟨l,ml,mc⟩:=List.mem_flatMap.mp m;exact (h.2.2 l ml).2 c mc⟩
theorem i9{n:Nat}{ls:List (Str×List Pc)}(hc:gO ls):run (n+3) 695 [.d (aS ls)] none=some (.ok (ye (ao ls)),none):=by
 refine bo (F:=⟨bB 54 2,[]⟩) (by kernel_rfl) rfl (by kernel_rfl) (ρ0:=[("self",.d (aS ls))]) (by kernel_rfl) (by walk_at "o") ?_
 try dsimp only [ai,ak]
 iterate 2 walk_at "w"
 refine aa (fM rfl ?_);iterate 2 walk_at "w"
 refine ⟨_,_,_,rfl,by decide+kernel,rfl,_,bw (by rw [List.length_map];have:=hc.1;lia),by rw [List.length_map];have:=hc.1;lia, ?_⟩
 let base:List (Str×List Pc)→List (Str×Loc):=fun pre=>[("self",.d (aS ls)),("found",.own ((ao pre).map fun c=>gG c.r))]
 refine fk dr (fun pre S=>S= ⟨base pre,none⟩∨∃k,S= ⟨base pre++ [lo "level" k],none⟩) ls (fun pre l post e S hS=> ?_) (.inl rfl) (fun S hS=> ?_)
 ·have hr:=hc.2.2 l (by rw [e];simp)
  have hp:(ao pre).length+l.2.length≤100:=by
   have:=hc.2.1;rw [e] at this;unfold ao at this ⊢;rw [List.flatMap_append,List.flatMap_cons,List.length_append,List.length_append] at this;lia
  refine ⟨⟨base pre++ [lo "level" (dr l)],none⟩, ?_, ?_⟩
  ·rcases hS with rfl|⟨k0,rfl⟩<;>rfl
  try dsimp only [base,List.cons_append,List.nil_append]
  refine aa (Hy rfl rfl (by walk_at "l") rfl (by walk_at "l") ?_);refine fZ rfl rfl (by decide+kernel) (by walk_at "l") (by walk_at "l") (a:=637) (by kernel_rfl) (by kernel_rfl) ?_;iterate 3 walk_at "w"
  refine ⟨_,_,_,rfl,by decide+kernel,rfl, ?_⟩;iterate 3 walk_at "w"
  refine ⟨_,_,_,rfl,by decide+kernel,rfl, ?_⟩;iterate 3 walk_at "w"
  refine ⟨_,_,_,rfl,by decide+kernel,rfl, ?_⟩;iterate 3 walk_at "w"
  refine ⟨_,_,_,rfl,by decide+kernel,rfl, ?_⟩;walk_at "w"
  refine ⟨rfl,_,Ce hr,_,_,_,rfl,by walk_at "l",by rw [List.length_map,List.length_map];lia,by walk_at "u", ?_⟩;walk_at "w"
  refine ⟨fun v e=>(nomatch e),.inr ⟨dr l, ?_⟩⟩;show (⟨_,_⟩:St)= ⟨[("self",.d (aS ls)),("found",.own ((ao (pre++ [l])).map fun c=>gG c.r)),lo "level" (dr l)],none⟩;unfold ao;rw [List.flatMap_append,List.flatMap_cons,List.flatMap_nil,List.append_nil,List.map_append]
 ·dsimp only [base] at hS
  rcases hS with rfl|⟨k0,rfl⟩
  all_goals
   try dsimp only [List.cons_append,List.nil_append]
   iterate 2 walk_at "w"
   refine nT (by decide+kernel) (by walk_at "l") (by walk_at "l") (by walk_at "u") ⟨rfl,rfl⟩
structure Ak where
 k:Str
 sec:Str
 nm:Str
 full:Str
noncomputable def bP:List Ak:=[⟨"core.flag","core","flag","core.flag"⟩,⟨"CORE.size","core","size","core.size"⟩,⟨"remote.origin.flag","remote.origin","flag","remote.origin.flag"⟩,⟨"remote.Mine.Size","remote.Mine","size","remote.Mine.size"⟩,⟨"remote.mine.flag","remote.mine","flag","remote.mine.flag"⟩,⟨"branch.main.size","branch.main","size","branch.main.size"⟩,
 ⟨"branch.main.remote","branch.main","remote","branch.main.remote"⟩,⟨"branch.main.merge","branch.main","merge","branch.main.merge"⟩,⟨"branch.x.remote","branch.x","remote","branch.x.remote"⟩,⟨"branch.x.merge","branch.x","merge","branch.x.merge"⟩,⟨"remote.origin.fetch","remote.origin","fetch","remote.origin.fetch"⟩,⟨"remote.origin.push","remote.origin","push","remote.origin.push"⟩,⟨"remote.Mine.fetch","remote.Mine","fetch","remote.Mine.fetch"⟩,⟨"remote.none.fetch","remote.none","fetch","remote.none.fetch"⟩]
theorem FY{β:Type}{f g:Ak→β}(e:bP.map f=bP.map g): ∀a:Ak,a∈bP→f a=g a:=fun a m=>List.map_inj_left.mp e a m
theorem DP{β:Type}{f g:Ak→Hd→β}(e:(bP.map fun a=>aX.map (f a))=bP.map fun a=>aX.map (g a)): ∀a:Ak,a∈bP→∀h:Hd,h∈aX→f a h=g a h:=fun a m h mh=>List.map_inj_left.mp (List.map_inj_left.mp e a m) h mh
theorem yd{n:Nat}: ∀a:Ak,a∈bP→run (n+4) 108 [.d (.str a.k)] none=some (.ok (.tup [.str a.sec,.str a.nm]),none):=FY (by kernel_rfl)
noncomputable def ar(cs:List Pc)(full:Str):List D:=(cs.filter fun c=>c.r.h.key==full).map fun c=>c.r.v
theorem jC{n:Nat}{ls:List (Str×List Pc)}(hc:gO ls)(a:Ak)(ha:a∈bP):run (n+5) 700 [.d (aS ls),.d (.str a.k)] none=some (.ok (.lst (ar (ao ls) a.full)),none):=by
 refine bo (F:=⟨bB 54 3,[]⟩) (by kernel_rfl) rfl (by kernel_rfl) (ρ0:=[("self",.d (aS ls)),("key",.d (.str a.k))]) (by kernel_rfl) (by walk_at "o") ?_
 try dsimp only [ai,ak]
 have hk:=yd (n:=n) a ha;refine aa (ui (by kernel_rfl) (fZ rfl rfl (by decide+kernel) (by walk_at "l") (by walk_at "l") (a:=108) (by kernel_rfl) (by kernel_rfl) ?_));iterate 3 walk_at "w"
 refine ⟨rfl,_,hk,_,⟨[("self",.d (aS ls)),("key",.d (.str a.k)),lo "section" (.str a.sec),lo "name" (.str a.nm)],none⟩,rfl,rfl, ?_⟩;have hl:=hc.all;refine aa (cC (eU (q:=⟨_,_,_,_,_,_⟩) rfl (jX (ao ls) (fun c=>gG c.r) (fun c=>c.r.h.key==a.full) (fun c=>c.r.v) (fun c=>[lo "name" (.str a.nm),lo "section" (.str a.sec),lo "told" (.str c.r.h.key),lo "value" c.r.v]) [lo "name" (.str a.nm),lo "section" (.str a.sec)] (by decide+kernel) (by decide+kernel) rfl ?_)))
 try dsimp only
 refine bh rfl rfl rfl (af (by decide+kernel) (by walk_at "l") ⟨774,_,695,rfl,by kernel_rfl,rfl,bn ⟨rfl,_,i9 (n:=n+1) hc,bw (by rw [List.length_map];have:=hl.1;lia),by have:=hl.1;lia,by kernel_rfl,rfl,fun x _=>rfl,fun x _ y=>rfl,fun x m=> ?_,fun x m _=>rfl,rfl,rfl⟩⟩);obtain ⟨⟨h,v⟩,b1,b2,b3⟩:=x;have hh:=(hl.2 _ m).1;dsimp only at hh ⊢;clear m hk;revert h;revert a;exact DP (by kernel_rfl)
theorem c8{r:ba}{ns:ab}{e:Expr}{S:St}{Q:D→St→Prop}(d:D)(h:r.ev ns e S=some (.ok (.d d),S))(hQ:Q d S):WD r ns e S Q:=⟨d,S,h,hQ⟩
noncomputable def br(l:List D):D:=l.getLast?.getD .none
theorem jL{l:List D}(h:l≠[])(hl:l.length≤100000):nu (.lst l) (-1)=some (br l):=by
 have h1:0<l.length:=List.length_pos_iff.mpr h;show (if (0:Int)≤ -1∧(-1:Int) <2 ^ 62 then l[(-1:Int).toNat]? else if -(l.length:Int)≤ -1∧ -(2 ^ 62)≤(-1:Int) then l[((-1:Int)+l.length).toNat]? else none)=_;rw [if_neg (fun h=>absurd h.1 (by decide)),if_pos ⟨Int.neg_le_neg (Int.ofNat_le.mpr h1),by decide⟩];have h2:((-1:Int)+l.length).toNat=l.length - 1:=(congrArg Int.toNat (Int.add_comm (-1) l.length)).trans (Int.toNat_sub l.length 1);rw [h2, ←List.getLast?_eq_getElem?];unfold br
 cases hx:l.getLast? with
 |none=>exact absurd (List.getLast?_eq_none_iff.mp hx) h
 |some d=>rfl
theorem jr{cs:List Pc}(hc:cY cs){full:Str}: ∀d∈ar cs full,cX 0 d:=fun d m=>by
 obtain ⟨c,mc,rfl⟩:=List.mem_map.mp m;exact EN (hc.2 c (List.mem_filter.mp mc).1)
theorem il{cs:List Pc}(hc:cY cs){full:Str}:(ar cs full).length≤100:=by
 unfold ar;rw [List.length_map];exact Nat.le_trans (List.length_filter_le _ _) hc.1
theorem hB{l:List D}(h: ∀d∈l,cX 0 d):gR .NotEq (.lst l) (.lst [])=some (!l.isEmpty):=by
 show (AQ (.lst l) (.lst [])).map (!·)=_;rw [Cs fun d m=>eE (h d m) (by decide)];rfl
theorem lV{n:Nat}{ls:List (Str×List Pc)}(hc:gO ls)(a:Ak)(ha:a∈bP):run (n+6) 707 [.d (aS ls),.d (.str a.k)] none=some (.ok (.bool (!(ar (ao ls) a.full).isEmpty)),none):=by
 refine bo (F:=⟨bB 54 4,[]⟩) (by kernel_rfl) rfl (by kernel_rfl) (ρ0:=[("self",.d (aS ls)),("key",.d (.str a.k))]) (by kernel_rfl) (by walk_at "o") ?_
 try dsimp only [ai,ak]
 iterate 3 walk_at "w"
 refine bh rfl rfl rfl (af (by decide+kernel) (by walk_at "l") ⟨774,_,700,rfl,by kernel_rfl,rfl, ?_⟩);iterate 3 walk_at "w"
 refine ⟨rfl,_,jC hc a ha,rfl, ?_⟩;iterate 2 walk_at "w"
 exact ⟨_,hB (jr hc.all),rfl,rfl⟩
theorem ig{n:Nat}{ls:List (Str×List Pc)}(hc:gO ls)(a:Ak)(ha:a∈bP):run (n+6) 714 [.d (aS ls),.d (.str a.k)] none=some (.ok (br (ar (ao ls) a.full)),none):=by
 refine bo (F:=⟨bB 54 5,[]⟩) (by kernel_rfl) rfl (by kernel_rfl) (ρ0:=[("self",.d (aS ls)),("key",.d (.str a.k))]) (by kernel_rfl) (by walk_at "o") ?_
 try dsimp only [ai,ak]
 iterate 2 walk_at "w"
 refine bh rfl rfl rfl (af (by decide+kernel) (by walk_at "l") ⟨774,_,700,rfl,by kernel_rfl,rfl, ?_⟩);iterate 3 walk_at "w"
 refine ⟨rfl,_,jC hc a ha, ?_⟩;iterate 6 walk_at "w"
 refine ⟨rfl, ?_⟩;iterate 2 walk_at "w"
 refine ⟨_,hB (jr hc.all), ?_⟩
 cases hp:ar (ao ls) a.full with
 |nil=>
  rw [if_neg (by simp)];walk_at "w"
  exact ⟨rfl,rfl⟩
 |cons d r=>
  rw [if_pos (by simp), ←hp];refine ft rfl ?_;walk_at "w"
  refine c8 (.int (-1)) (by kernel_rfl) ⟨_,_,rfl,jL (by rw [hp];exact fun e=>nomatch e) (Nat.le_trans (il hc.all) (by decide)),rfl,rfl⟩
noncomputable def AT:bH D→bH Fl
 | .ok d=>.ok (.ret d)
 | .bad=>.bad
theorem A9{fn:au}{k:Nat}{ns:ab}{S:St}{g:Str}{q p:Pos}{args:List Expr}(hh:cM ns (.Call (.Name g q) args [] p) S=none)(hb:(decide (args.length≤8)&&cF (.Name g q) p&&args.all aE)=true)(hn:(g== ("__debug__":Str))=false)(h1:S.ρ.lookup g=none)(h2:ns.lookup g=some .globalImplicit)
  {a:Addr} (h3:bV.lookup g=some (.val (.ref a))) (hc:cw.lookup a=none) {o:bH D} (h:WL (ah fn (k+1)) ns args S fun vs S1=>vs.any V.isPtr=false∧fn a vs none=some (o,none)∧S1=S):(ah fn (k+2)).ev ns (.Call (.Name g q) args [] p) S=some (AV o,S):=by
 obtain ⟨vs,S1,h4,h5,h6,rfl⟩:=h;rw [fR hh hb hn h1 h2 h3 h4];show (cw.lookup a).elim (dL fn a vs S1) (fun c=>fz fn a c.init vs S1)=_;rw [hc];show dL fn a vs S1=_;unfold dL;rw [h5,h6]<;>rfl
theorem oJ{fn:au}{k:Nat}{ns:ab}{S:St}{t a b:Expr}{p p':Pos}{o:bH D}(h:WB (ah fn k) ns t S fun c S1=>S1=S∧(ah fn k).ev ns (if c=true then a else b) S=some (AV o,S)):lj (ah fn (k+2)) ns [.Return (some (.IfExp t a b p)) p'] S=some (AT o,S):=by
 obtain ⟨c,S1,h1,rfl,h2⟩:=h;have e1:(ah fn (k+1)).ev ns (.IfExp t a b p) S1=some (AV o,S1):=by
  show Ev.bind ((ah fn k).evT ns t) _ S1=_;rw [ad h1]
  cases c<;>exact h2
 show Ev.bind ((ah fn (k+2)).ex ns (.Return (some (.IfExp t a b p)) p')) _ S1=_;have e2:(ah fn (k+2)).ex ns (.Return (some (.IfExp t a b p)) p') S1=some (AT o,S1):=by
  show Ev.bind (fe (ah fn (k+1)) ns (.IfExp t a b p)) _ S1=_
  cases o with
  |ok d=>rw [ad (bJ e1)]<;>rfl
  |bad=>
   have e3:fe (ah fn (k+1)) ns (.IfExp t a b p) S1=some (.bad,S1):=by
    unfold fe Ev.bind;rw [e1]<;>rfl
   unfold Ev.bind;rw [e3]<;>rfl
 unfold Ev.bind;rw [e2]
 cases o<;>rfl
theorem uj{n:Nat}{a:Addr}{F:dj}{st:Stmt}{args:List V}{o:bH D}{ρ0:List (Str×Loc)}(hF:lC.lookup a=some F)(lx:(a==857)=false)(vn:gS F args.length=true)(hρ:ej F args=ρ0)(em:F.st=st)
  (h: ∃S,lj (ah (run n) 60) (ai st).names (ak st) ⟨ρ0,none⟩=some (AT o,S)∧S.σ=none):run (n+1) a args none=some (o,none):=by
 obtain ⟨S,h1,h2⟩:=h;refine (if_neg (fun e=>by rw [e] at lx;exact nomatch lx)).trans ?_;rw [hF];subst em hρ;obtain ⟨h3,h4⟩:=Bool.and_eq_true_iff.mp vn;refine (if_pos ⟨of_decide_eq_true h3,of_decide_eq_true h4⟩).trans ?_;have Gg:lj (ah (run n) 60) (ai F.st).names (ak F.st) ⟨(bq F.st).zip (args.map kC++ (F.defs.drop (args.length+F.defs.length - (bq F.st).length)).map .d),none⟩=some (AT o,S):=h1;rw [Gg]
 cases o with
 |ok d=>show some (bH.ok (gY (.ret d)),S.σ)=_;rw [h2];rfl
 |bad=>show (if S.σ.isNone then some (bH.bad,none) else none)=_;rw [h2];rfl
theorem vK{n:Nat}{ls:List (Str×List Pc)}(hc:gO ls)(a:Ak)(ha:a∈bP){dflt:D}{o:bH D}(hb:run (n+6) 136 [.d (br (ar (ao ls) a.full))] none=some (o,none)):
  run (n+7) 722 [.d (aS ls),.d (.str a.k),.d dflt] none=some (if (ar (ao ls) a.full).isEmpty then .ok dflt else o,none):=by
 refine uj (F:=⟨bB 54 6,[.bool false]⟩) (by kernel_rfl) rfl (by kernel_rfl) (ρ0:=[("self",.d (aS ls)),("key",.d (.str a.k)),("default",.d dflt)]) (by kernel_rfl) (by walk_at "o") ?_
 try dsimp only [ai,ak]
 refine ⟨_,oJ ?_,rfl⟩;refine cV rfl (bh rfl rfl rfl (af (by decide+kernel) (by walk_at "l") ⟨774,_,707,rfl,by kernel_rfl,rfl, ?_⟩));iterate 3 walk_at "w"
 refine ⟨rfl,_,lV hc a ha,_,rfl,rfl, ?_⟩
 cases hp:(ar (ao ls) a.full).isEmpty with
 |true=>exact ed (by decide+kernel)
 |false=>
  refine A9 rfl rfl (by decide+kernel) (by walk_at "l") (by walk_at "l") (a:=136) (by kernel_rfl) (by kernel_rfl) ?_;refine aI rfl (bh rfl rfl rfl (af (by decide+kernel) (by walk_at "l") ⟨774,_,714,rfl,by kernel_rfl,rfl, ?_⟩));iterate 3 walk_at "w"
  refine ⟨rfl,_,ig hc a ha, ?_⟩;walk_at "w"
  exact ⟨rfl,hb,rfl⟩
theorem rl{n:Nat}{ls:List (Str×List Pc)}(hc:gO ls)(a:Ak)(ha:a∈bP){dflt:D}{o:bH D}(hb:run (n+6) 150 [.d (br (ar (ao ls) a.full))] none=some (o,none)):
  run (n+7) 730 [.d (aS ls),.d (.str a.k),.d dflt] none=some (if (ar (ao ls) a.full).isEmpty then .ok dflt else o,none):=by
 refine uj (F:=⟨bB 54 7,[.int 0]⟩) (by kernel_rfl) rfl (by kernel_rfl) (ρ0:=[("self",.d (aS ls)),("key",.d (.str a.k)),("default",.d dflt)]) (by kernel_rfl) (by walk_at "o") ?_
 try dsimp only [ai,ak]
 refine ⟨_,oJ ?_,rfl⟩;refine cV rfl (bh rfl rfl rfl (af (by decide+kernel) (by walk_at "l") ⟨774,_,707,rfl,by kernel_rfl,rfl, ?_⟩));iterate 3 walk_at "w"
 refine ⟨rfl,_,lV hc a ha,_,rfl,rfl, ?_⟩
 cases hp:(ar (ao ls) a.full).isEmpty with
 |true=>exact ed (by decide+kernel)
 |false=>
  refine A9 rfl rfl (by decide+kernel) (by walk_at "l") (by walk_at "l") (a:=150) (by kernel_rfl) (by kernel_rfl) ?_;refine aI rfl (bh rfl rfl rfl (af (by decide+kernel) (by walk_at "l") ⟨774,_,714,rfl,by kernel_rfl,rfl, ?_⟩));iterate 3 walk_at "w"
  refine ⟨rfl,_,ig hc a ha, ?_⟩;walk_at "w"
  exact ⟨rfl,hb,rfl⟩
noncomputable def en:Nat→List Pk→List (Nat×Pk)
 |_,[]=>[]
 |n,x::r=>(n,x)::en (n+1) r
noncomputable def Qc(p:Nat×Pk):D:=.tup [.int p.1,lf p.2]
theorem Oq(l:List Pk)(n:Nat):gX n (l.map lf)= (en n l).map Qc:=by
 induction l generalizing n with
 |nil=>rfl
 |cons x r ih=>exact congrArg (D.tup [.int n,lf x]:: ·) (ih (n+1))
theorem yz(l:List Pk)(n:Nat):(en n l).length=l.length:=by
 induction l generalizing n with
 |nil=>rfl
 |cons x r ih=>exact congrArg (· +1) (ih (n+1))
theorem yy{l:List Pk}{n:Nat}{p:Nat×Pk}(m:p∈en n l):n≤p.1∧l[p.1 - n]? =some p.2:=by
 induction l generalizing n with
 |nil=>exact nomatch m
 |cons x r ih=>
  refine (List.mem_cons.mp m).elim (fun e=> ?_) fun m=> ?_
  ·rw [e]
   exact ⟨Nat.le_refl _,by rw [Nat.sub_self];rfl⟩
  ·obtain ⟨h1,h2⟩:=ih m
   refine ⟨Nat.le_of_succ_le h1, ?_⟩;rw [show p.1 - n= (p.1 - (n+1))+1 from (Nat.succ_pred_eq_of_pos (Nat.sub_pos_of_lt h1)).symm];exact h2
theorem FM(l:List Pk)(n:Nat):(en n l).map (·.2)=l:=by
 induction l generalizing n with
 |nil=>rfl
 |cons x r ih=>exact congrArg (x:: ·) (ih (n+1))
noncomputable def jT(full:Str)(x:Pk):Bool:=LU x&& ((gE x).h.key==full)
noncomputable def eM(cs:List Pc)(full:Str):List (Nat×Pk):=(en 0 (kN cs)).filter fun p=>jT full p.2
theorem kW(cs:List Pc)(full:Str):(eM cs full).map (fun p=>(gE p.2).v)=ar cs full:=by
 unfold eM ar;have e1:((en 0 (kN cs)).filter fun p=>jT full p.2).map (fun p=>(gE p.2).v)= ((kN cs).filter (jT full)).map (fun x=>(gE x).v):=by
  have:=FM (kN cs) 0
  conv=>rhs;rw [←this,List.filter_map,List.map_map]
  rfl
 rw [e1];have e2: ∀cs:List Pc,((kN cs).filter (jT full)).map (fun x=>(gE x).v)= (cs.filter fun c=>c.r.h.key==full).map fun c=>c.r.v:=by
  intro cs
  induction cs with
  |nil=>rfl
  |cons c r ih=>
   show ((Pk.s c::Pk.g c::Pk.v c::kN r).filter (jT full)).map (fun x=>(gE x).v)=_;rw [List.filter_cons_of_neg (by show ¬(false=true);simp),List.filter_cons_of_neg (by show ¬(false=true);simp),List.filter_cons,List.filter_cons]
   cases h:c.r.h.key==full with
   |true=>rw [if_pos (by show (true&& (c.r.h.key==full))=true;rw [h];rfl),if_pos rfl,List.map_cons,List.map_cons,ih];rfl
   |false=>rw [if_neg (by show ¬((true&& (c.r.h.key==full))=true);rw [h];simp),if_neg (by simp),ih]
 exact e2 cs
theorem nW{cs:List Pc}(hc:cY cs)(full:Str):(eM cs full).length≤300:=by
 unfold eM;refine Nat.le_trans (List.length_filter_le _ _) ?_;rw [yz,iD];have:=hc.1;lia
noncomputable def xg(p:Nat×Pk):D:=.int p.1
theorem Dy{fn:au}{k:Nat}{ns:ab}{e:Expr}{S:St}{g:D}(h:WD (ah fn k) ns e S fun d S'=>d=g∧S'=S):(ah fn k).ev ns e S=some (.ok (.d g),S):=by
 obtain ⟨d,S',h1,rfl,rfl⟩:=h;exact h1
theorem LB(cs:List Pc):cL cs= .inst 575 [("pieces",.lst ((kN cs).map lf))]:=rfl
theorem EH{r:ba}{ns:ab}{e:Expr}{S:St}{QB:Bool→St→Prop}(b:Bool)(h:r.evT ns e S=some (.ok b,S))(hQ:QB b S):WB r ns e S QB:=⟨b,S,h,hQ⟩
inductive Tc(r:ba)(ns:ab)(target:Expr)(body:List Stmt)(QX:Fl→St→Prop)(d:D)(S:St):Prop where
 |mk (l:List D) (h1:d= .lst l) (h2:l.length≤1000) (hQ:WF r ns target body (gX 0 l) S QX)
theorem E1{fn:au}{k:Nat}{ns:ab}{S:St}{QX:Fl→St→Prop}{target a:Expr}{f:Str}{fp cp:Pos}{body:List Stmt}{p:Pos}(he:f9 (ah fn k) ns target (.Call (.Name f fp) [a] [] cp) S=Ev.bind (fe (ah fn k) ns a) (yx target) S)(ht:qe target=true)
  (h:WD (ah fn k) ns a S (Tc (ah fn k) ns target body QX)):WS (ah fn (k+1)) ns (.For target (.Call (.Name f fp) [a] [] cp) body [] p) S QX:=by
 obtain ⟨d,S1,h1,l,rfl,h2,h3⟩:=h;have QY: ∀(l:List D) (n:Nat),(gX n l).length=l.length:=by
  intro l
  induction l with
  |nil=>intro n;rfl
  |cons x r ih=>intro n;show (gX (n+1) r).length+1=_;rw [ih];rfl
 refine xT (items:=gX 0 l) (S1:=S1) ?_ (by rw [QY];exact Nat.le_trans h2 (by decide)) h3;rw [he,ad (bJ h1)];exact if_pos ⟨Nat.le_trans h2 (by decide),ht⟩
theorem jd{n:Nat}{cs:List Pc}(hc:cY cs)(a:Ak)(ha:a∈bP):run (n+5) 452 [.d (cL cs),.d (.str a.k)] none=some (.ok (.lst ((eM cs a.full).map xg)),none):=by
 refine bo (F:=⟨bB 47 3,[]⟩) (by kernel_rfl) rfl (by kernel_rfl) (ρ0:=[("self",.d (cL cs)),("key",.d (.str a.k))]) (by kernel_rfl) (by walk_at "o") ?_
 try dsimp only [ai,ak]
 have hk:=yd (n:=n) a ha;have aP:((kN cs).map lf).length≤1000:=by rw [List.length_map,iD];have:=hc.1;lia
 refine aa (ui (by kernel_rfl) (fZ rfl rfl (by decide+kernel) (by walk_at "l") (by walk_at "l") (a:=108) (by kernel_rfl) (by kernel_rfl) ?_));iterate 3 walk_at "w"
 refine ⟨rfl,_,hk,_,⟨[("self",.d (cL cs)),("key",.d (.str a.k)),lo "section" (.str a.sec),lo "name" (.str a.nm)],none⟩,rfl,rfl, ?_⟩;iterate 2 walk_at "w"
 refine aa (E1 (by kernel_rfl) rfl ?_);iterate 2 walk_at "w"
 refine ⟨_,_,_,rfl,by decide+kernel,rfl,_,rfl,aP, ?_⟩;rw [Oq]
 let base:List (Nat×Pk)→List (Str×Loc):=fun pre=>[("self",.d (cL cs)),("key",.d (.str a.k)),lo "section" (.str a.sec),lo "name" (.str a.nm),("found",.own ((pre.filter fun p=>jT a.full p.2).map xg))]
 refine fk Qc (fun pre S=>S= ⟨base pre,none⟩∨∃k v,S= ⟨base pre++ [lo "at" k,lo "piece" v],none⟩) (en 0 (kN cs)) (fun pre p post e S hS=> ?_) (.inl rfl) (fun S hS=> ?_)
 ·obtain ⟨i,x⟩:=p
  have hp:pre.length≤1000:=by
   have h1:=congrArg List.length e;rw [yz,List.length_append, ←List.length_map (f:=lf)] at h1;lia
  have hx:x∈kN cs:=by
   have:(i,x)∈en 0 (kN cs):=by rw [e];simp
   exact List.mem_of_getElem? (yy this).2
  refine ⟨⟨base pre++ [lo "at" (.int i),lo "piece" (lf x)],none⟩, ?_, ?_⟩
  ·rcases hS with rfl|⟨k0,v0,rfl⟩<;>rfl
  try dsimp only [base,List.cons_append,List.nil_append]
  refine aa (bC (EH (jT a.full x) ?_ ?_))
  ·obtain ⟨c,mc,ec⟩:=ph hx
   have hh:=(hc.2 c mc).1;rw [←ec] at hh;clear ec hx hk e hS;obtain ⟨⟨h,v⟩,b1,b2,b3⟩|⟨⟨h,v⟩,b1,b2,b3⟩|⟨⟨h,v⟩,b1,b2,b3⟩:=x
   ·kernel_rfl
   ·kernel_rfl
   ·dsimp only [gE] at hh
    revert h;clear base;revert a;exact DP (by kernel_rfl)
  ·have dR: ∀b,jT a.full x=b→((pre++ [(i,x)]).filter fun p=>jT a.full p.2).map xg= (pre.filter fun p=>jT a.full p.2).map xg++if b then [.int i] else []:=by
    intro b hb;rw [List.filter_append,List.map_append,List.filter_cons,List.filter_nil,hb]
    cases b<;>rfl
   cases hs:jT a.full x with
   |true=>
    rw [if_pos rfl];refine aa (jk rfl rfl (by walk_at "l") rfl (by walk_at "l") ?_);walk_at "w"
    refine ⟨_,_,by walk_at "l", ?_,by walk_at "u", ?_⟩
    ·rw [List.length_map];exact Nat.le_trans (List.length_filter_le _ _) (Nat.le_trans hp (by decide))
    iterate 2 walk_at "w"
    refine ⟨fun v e=>(nomatch e),.inr ⟨.int i,lf x, ?_⟩⟩;show _= (⟨[("self",.d (cL cs)),("key",.d (.str a.k)),lo "section" (.str a.sec),lo "name" (.str a.nm),("found",.own (((pre++ [(i,x)]).filter fun p=>jT a.full p.2).map xg)),lo "at" (.int i),lo "piece" (lf x)],none⟩:St);rw [dR true hs];rfl
   |false=>
    rw [if_neg (by simp)];iterate 2 walk_at "w"
    refine ⟨fun v e=>(nomatch e),.inr ⟨.int i,lf x, ?_⟩⟩;show _= (⟨[("self",.d (cL cs)),("key",.d (.str a.k)),lo "section" (.str a.sec),lo "name" (.str a.nm),("found",.own (((pre++ [(i,x)]).filter fun p=>jT a.full p.2).map xg)),lo "at" (.int i),lo "piece" (lf x)],none⟩:St);rw [dR false hs];simp only [Bool.false_eq_true,if_false,List.append_nil]
 ·dsimp only [base] at hS
  rcases hS with rfl|⟨k0,v0,rfl⟩
  all_goals
   try dsimp only [List.cons_append,List.nil_append]
   iterate 2 walk_at "w"
   refine nT (by decide+kernel) (by walk_at "l") (by walk_at "l") (by walk_at "u") ⟨rfl,rfl⟩
theorem Fp{i:Int}:cX 0 (.int i):=⟨.int i,rfl,rfl,Nat.le_refl _⟩
theorem uK{cs:List Pc}{full:Str}: ∀d∈ (eM cs full).map xg,cX 0 d:=fun d m=>by
 obtain ⟨p,_,rfl⟩:=List.mem_map.mp m;exact Fp
theorem tu(cs:List Pc)(full:Str):((eM cs full).map xg).isEmpty= (ar cs full).isEmpty:=by
 rw [←kW]
 cases eM cs full<;>rfl
theorem qu{cs:List Pc}(hc:cY cs){full:Str}{p:Nat×Pk}(m:p∈eM cs full): ∃c,p.2= .v c∧cW c.r∧((kN cs).map lf)[p.1]? =some (lf p.2):=by
 obtain ⟨m1,m2⟩:=List.mem_filter.mp m;obtain ⟨i,x⟩:=p;have hg:=(yy m1).2;dsimp only at hg m2 ⊢;have hv:LU x=true:=(Bool.and_eq_true_iff.mp m2).1;obtain ⟨c,mc,ec⟩:=ph (List.mem_of_getElem? hg)
 cases x with
 |s c=>cases hv
 |g c=>cases hv
 |v c'=>
  refine ⟨c',rfl, ?_, ?_⟩
  ·have:c'.r=c.r:=ec
   rw [this];exact hc.2 c mc
  ·rw [List.getElem?_map]
   rw [Nat.sub_zero] at hg;rw [hg];rfl
theorem yj{l:List D}{i:Nat}{d:D}(h:l[i]? =some d)(hl:l.length≤100000):nu (.lst l) (i:Int)=some d:=by
 have hi:i<l.length:=(List.getElem?_eq_some_iff.mp h).1;unfold nu
 try dsimp only
 rw [if_pos (by lia),Int.toNat_natCast,h]
theorem uQ{r:Rw}(h:cW r):(some r.v).filter D2=some r.v:=by
 rcases nU h with e|⟨x,e,_⟩<;>rw [e]<;>rfl
theorem qK{α:Type}(l:List α)(f:α→D){x:α}(h:l.getLast?=some x):br (l.map f)=f x:=by
 unfold br;rw [List.getLast?_map,h];rfl
theorem mw{n:Nat}{cs:List Pc}(hc:cY cs)(a:Ak)(ha:a∈bP):run (n+6) 459 [.d (cL cs),.d (.str a.k)] none=some (.ok (.bool (!(ar cs a.full).isEmpty)),none):=by
 refine bo (F:=⟨bB 47 4,[]⟩) (by kernel_rfl) rfl (by kernel_rfl) (ρ0:=[("self",.d (cL cs)),("key",.d (.str a.k))]) (by kernel_rfl) (by walk_at "o") ?_
 try dsimp only [ai,ak]
 iterate 3 walk_at "w"
 refine bh rfl rfl rfl (af (by decide+kernel) (by walk_at "l") ⟨575,_,452,rfl,by kernel_rfl,rfl, ?_⟩);iterate 3 walk_at "w"
 refine ⟨rfl,_,jd hc a ha,rfl, ?_⟩;iterate 2 walk_at "w"
 refine ⟨_,hB uK, ?_⟩;rw [tu];exact ⟨rfl,rfl⟩
theorem my{n:Nat}{cs:List Pc}(hc:cY cs)(a:Ak)(ha:a∈bP):run (n+6) 466 [.d (cL cs),.d (.str a.k)] none=some (.ok (br (ar cs a.full)),none):=by
 refine bo (F:=⟨bB 47 5,[]⟩) (by kernel_rfl) rfl (by kernel_rfl) (ρ0:=[("self",.d (cL cs)),("key",.d (.str a.k))]) (by kernel_rfl) (by walk_at "o") ?_
 try dsimp only [ai,ak]
 iterate 2 walk_at "w"
 refine bh rfl rfl rfl (af (by decide+kernel) (by walk_at "l") ⟨575,_,452,rfl,by kernel_rfl,rfl, ?_⟩);iterate 3 walk_at "w"
 refine ⟨rfl,_,jd hc a ha, ?_⟩;iterate 6 walk_at "w"
 refine ⟨rfl, ?_⟩;iterate 2 walk_at "w"
 refine ⟨_,hB uK, ?_⟩;have aP:((kN cs).map lf).length≤1000:=by rw [List.length_map,iD];have:=hc.1;lia
 cases hp:(eM cs a.full).getLast? with
 |none=>
  have h0:eM cs a.full= []:=List.getLast?_eq_none_iff.mp hp;rw [h0,if_neg (by simp)];walk_at "w"
  refine ⟨?_,rfl⟩;rw [←kW,h0];rfl
 |some p=>
  have hm:p∈eM cs a.full:=List.mem_of_getLast? hp;obtain ⟨c,e1,hr,hg⟩:=qu hc hm;have kO:(eM cs a.full).map xg≠[]:=fun e=>by rw [List.map_eq_nil_iff.mp e] at hm;cases hm
  rw [if_pos (by cases h:(eM cs a.full).map xg with|nil=>exact absurd h kO|cons=>rfl)];refine oX rfl (ft rfl ?_);iterate 2 walk_at "w"
  refine ⟨_,_,_,rfl,by decide+kernel,rfl, ?_⟩;refine ft rfl ?_;walk_at "w"
  refine c8 (.int (-1)) (by kernel_rfl) ⟨_,_,rfl,jL kO (by rw [List.length_map];exact Nat.le_trans (nW hc _) (by decide)), ?_⟩;refine ⟨(p.1:Int),_,qK _ _ hp,yj hg (Nat.le_trans aP (by decide)), ?_⟩;rw [e1];refine ⟨197,_,c.r.v,rfl,by decide+kernel,uQ hr, ?_⟩;refine ⟨?_,rfl⟩;show c.r.v=_;rw [←kW,qK _ _ hp,e1];rfl
theorem zX{n:Nat}{cs:List Pc}(hc:cY cs)(a:Ak)(ha:a∈bP):run (n+6) 471 [.d (cL cs),.d (.str a.k)] none=some (.ok (.lst (ar cs a.full)),none):=by
 refine bo (F:=⟨bB 47 6,[]⟩) (by kernel_rfl) rfl (by kernel_rfl) (ρ0:=[("self",.d (cL cs)),("key",.d (.str a.k))]) (by kernel_rfl) (by walk_at "o") ?_
 try dsimp only [ai,ak]
 have aP:((kN cs).map lf).length≤1000:=by rw [List.length_map,iD];have:=hc.1;lia
 have hl:=nW hc a.full;refine aa (cC (eU (q:=⟨_,_,_,_,_,_⟩) rfl (jX (eM cs a.full) xg (fun _=>true) (fun p=>(gE p.2).v) (fun p=>[lo "self" (cL cs),lo "at" (.int p.1)]) [lo "self" (cL cs)] (by decide+kernel) (by decide+kernel) rfl ?_)))
 try dsimp only
 refine bh rfl rfl rfl (af (by decide+kernel) (by walk_at "l") ⟨575,_,452,rfl,by kernel_rfl,rfl, ?_⟩);iterate 3 walk_at "w"
 refine ⟨rfl,_,jd hc a ha,bw (by rw [List.length_map];lia),by lia,by kernel_rfl,rfl,fun x _=>rfl,fun x _ y=>rfl,fun x m=>rfl,fun p m _=> ?_, ?_⟩
 ·obtain ⟨c,e1,hr,hg⟩:=qu hc m
  refine Dy (oX rfl (ft rfl ?_));iterate 2 walk_at "w"
  refine ⟨_,_,_,rfl,by decide+kernel,rfl, ?_⟩;walk_at "w"
  refine ⟨(p.1:Int),_,rfl,yj hg (Nat.le_trans aP (by decide)), ?_⟩;rw [e1];exact ⟨197,_,c.r.v,rfl,by decide+kernel,uQ hr,rfl,rfl⟩
 ·rw [List.filter_eq_self.mpr (fun _ _=>rfl),kW]
  exact ⟨rfl,rfl⟩
theorem wD{n:Nat}{cs:List Pc}(hc:cY cs)(a:Ak)(ha:a∈bP){dflt:D}{o:bH D}(hb:run (n+6) 136 [.d (br (ar cs a.full))] none=some (o,none)):
  run (n+7) 564 [.d (cL cs),.d (.str a.k),.d dflt] none=some (if (ar cs a.full).isEmpty then .ok dflt else o,none):=by
 refine uj (F:=⟨bB 47 19,[.bool false]⟩) (by kernel_rfl) rfl (by kernel_rfl) (ρ0:=[("self",.d (cL cs)),("key",.d (.str a.k)),("default",.d dflt)]) (by kernel_rfl) (by walk_at "o") ?_
 try dsimp only [ai,ak]
 refine ⟨_,oJ ?_,rfl⟩;refine cV rfl (bh rfl rfl rfl (af (by decide+kernel) (by walk_at "l") ⟨575,_,459,rfl,by kernel_rfl,rfl, ?_⟩));iterate 3 walk_at "w"
 refine ⟨rfl,_,mw hc a ha,_,rfl,rfl, ?_⟩
 cases hp:(ar cs a.full).isEmpty with
 |true=>exact ed (by decide+kernel)
 |false=>
  refine A9 rfl rfl (by decide+kernel) (by walk_at "l") (by walk_at "l") (a:=136) (by kernel_rfl) (by kernel_rfl) ?_;refine aI rfl (bh rfl rfl rfl (af (by decide+kernel) (by walk_at "l") ⟨575,_,466,rfl,by kernel_rfl,rfl, ?_⟩));iterate 3 walk_at "w"
  refine ⟨rfl,_,my hc a ha, ?_⟩;walk_at "w"
  exact ⟨rfl,hb,rfl⟩
theorem rM{n:Nat}{cs:List Pc}(hc:cY cs)(a:Ak)(ha:a∈bP){dflt:D}{o:bH D}(hb:run (n+6) 150 [.d (br (ar cs a.full))] none=some (o,none)):
  run (n+7) 572 [.d (cL cs),.d (.str a.k),.d dflt] none=some (if (ar cs a.full).isEmpty then .ok dflt else o,none):=by
 refine uj (F:=⟨bB 47 20,[.int 0]⟩) (by kernel_rfl) rfl (by kernel_rfl) (ρ0:=[("self",.d (cL cs)),("key",.d (.str a.k)),("default",.d dflt)]) (by kernel_rfl) (by walk_at "o") ?_
 try dsimp only [ai,ak]
 refine ⟨_,oJ ?_,rfl⟩;refine cV rfl (bh rfl rfl rfl (af (by decide+kernel) (by walk_at "l") ⟨575,_,459,rfl,by kernel_rfl,rfl, ?_⟩));iterate 3 walk_at "w"
 refine ⟨rfl,_,mw hc a ha,_,rfl,rfl, ?_⟩
 cases hp:(ar cs a.full).isEmpty with
 |true=>exact ed (by decide+kernel)
 |false=>
  refine A9 rfl rfl (by decide+kernel) (by walk_at "l") (by walk_at "l") (a:=150) (by kernel_rfl) (by kernel_rfl) ?_;refine aI rfl (bh rfl rfl rfl (af (by decide+kernel) (by walk_at "l") ⟨575,_,466,rfl,by kernel_rfl,rfl, ?_⟩));iterate 3 walk_at "w"
  refine ⟨rfl,_,my hc a ha, ?_⟩;walk_at "w"
  exact ⟨rfl,hb,rfl⟩
noncomputable def Dv(x:Option (bH D×Option Slot)):bH D:=match x with
 |some (o,_)=>o
 |none=>.bad
noncomputable def jo(v:D):bH D:=Dv (run 7 136 [.d v] none)
noncomputable def oH(v:D):bH D:=Dv (run 7 150 [.d v] none)
noncomputable def qb(v:D):D:=(jg "repr" [.lst [cj (jo v),cj (oH v)]]).getD .none
noncomputable def isStr:D→Bool
 | .str _=>true
 |_=>false
theorem v_all{β:Type}{f g:D→β}(e:bU.map f=bU.map g): ∀v:D,v∈bU→f v=g v:=fun v m=>List.map_inj_left.mp e v m
theorem ql: ∀v:D,v∈bU→run 7 136 [.d v] none=some (jo v,none):=v_all (by kernel_rfl)
theorem uG: ∀v:D,v∈bU→run 7 150 [.d v] none=some (oH v,none):=v_all (by kernel_rfl)
theorem vC: ∀v:D,v∈bU→run 8 909 [.d v] none=some (.ok (cj (jo v)),none):=v_all (by kernel_rfl)
theorem td: ∀v:D,v∈bU→run 8 902 [.d v] none=some (.ok (cj (oH v)),none):=v_all (by kernel_rfl)
theorem yT: ∀v:D,v∈bU→(jg "repr" [.lst [cj (jo v),cj (oH v)]]=some (qb v)∧isStr (qb v)=true):=by
 have:(bU.map fun v=>(jg "repr" [.lst [cj (jo v),cj (oH v)]],isStr (qb v)))=bU.map fun v=>(some (qb v),true):=by kernel_rfl
 intro v m;have e:=List.map_inj_left.mp this v m;exact ⟨congrArg (·.1) e,congrArg (·.2) e⟩
theorem B2{n:Nat}: ∀h:Hd,h∈aX→run (n+3) 888 [.d (.str h.sec),.d h.below,.d (.str h.word)] none=some (.ok (.str h.key),none):=lO (by kernel_rfl)
noncomputable def dA:List Ak:=bP.take 6
theorem ef{a:Ak}(h:a∈dA):a∈bP:=List.mem_of_mem_take h
theorem zG:(dA.all fun a=>aX.all fun h=> !(h.key==a.full)|| (h.iname=="flag"||h.iname=="size"))=true:=by kernel_rfl
theorem n8{cs:List Pc}(hc:cY cs){a:Ak}(ha:a∈dA): ∀d∈ar cs a.full,d∈bU:=fun d m=>by
 obtain ⟨c,mc,rfl⟩:=List.mem_map.mp m;obtain ⟨m1,m2⟩:=List.mem_filter.mp mc;have hr:=hc.2 c m1;have h1:=List.all_eq_true.mp (List.all_eq_true.mp zG a ha) c.r.h hr.1;rw [show (c.r.h.key==a.full)=true from m2] at h1;have h2:=hr.2;unfold cq at h2;rw [if_pos (by simpa using h1)] at h2;exact h2
theorem mf{l:List D}(h:l≠[]):br l∈l:=by
 unfold br
 cases hx:l.getLast? with
 |none=>exact absurd (List.getLast?_eq_none_iff.mp hx) h
 |some d=>exact List.mem_of_getLast? hx
theorem u7{fn:au}{k:Nat}{ns:ab}{S:St}{Q:D→St→Prop}{f:Expr}{args:List Expr}{p:Pos}{x y m:Str}{xp yp p':Pos}{c:Const}{i:Nat}(hh:cM ns (.Call f args [] p) ⟨[],none⟩=some (.Name x xp,m,[.Name y yp,.Constant c i p']))(hg:S.ρ.lookup ("_law_heard":Str)=none){C:Addr}{fs:List (Str×D)}{key dflt:D}{g:Addr}
  (h1:S.ρ.lookup x=some (.d (.inst C fs))) (h2:S.ρ.lookup y=some (.d key)) (h3:gc c=some dflt) (h4:bT C m=some g) (h5:fs.lookup m=none) {o:bH D} (h6:fn g [.d (.inst C fs),.d key,.d dflt] none=some (o,none)) (hQ:Q (cj o) S):WD (ah fn (k+1)) ns (.Call f args [] p) S Q:=by
 refine ⟨cj o,S, ?_,hQ⟩;show (cM ns (.Call f args [] p) S).elim _ (fun q=>pt fn (ah fn k) ns q.1 q.2.1 q.2.2 S)=_;rw [show cM ns (.Call f args [] p) S=_ from (congrArg (mi ns _) (show cG ns _ S=cG ns _ ⟨[],none⟩ from by unfold cG;rw [hg];rfl)).trans hh];show (S.ρ.lookup x).bind _=_;rw [h1];show (S.ρ.lookup y).bind _=_;rw [h2];show (gc c).bind _=_;rw [h3];show (bT C m).bind _=_;rw [h4];show (if (fs.lookup m).isNone then (fn g [.d (.inst C fs),.d key,.d dflt] none).bind _ else none)=_;rw [h5,h6]<;>rfl
theorem Cf{r:ba}{ns:ab}{e:Expr}{S:St}{b:Bool}(h:WB r ns e S fun c S'=>c=b∧S'=S):nt r ns [e] S=some (.ok b,S):=by
 obtain ⟨c,S',h1,rfl,rfl⟩:=h;show Ev.bind (r.evT ns e) _ S'=_;rw [ad h1]
 cases c<;>rfl
structure EJ(C:Addr)(fs:List (Str×D))(cs:List Pc):Prop where
 ok:cY cs
 has: ∃f,bT C "has"=some f∧fs.lookup ("has":Str)=none∧∀a∈dA,run 8 f [.d (.inst C fs),.d (.str a.k)] none=some (.ok (.bool (!(ar cs a.full).isEmpty)),none)
 get: ∃f,bT C "get"=some f∧fs.lookup ("get":Str)=none∧∀a∈dA,run 8 f [.d (.inst C fs),.d (.str a.k)] none=some (.ok (br (ar cs a.full)),none)
 all: ∃f,bT C "get_all"=some f∧fs.lookup ("get_all":Str)=none∧∀a∈dA,run 8 f [.d (.inst C fs),.d (.str a.k)] none=some (.ok (.lst (ar cs a.full)),none)
 flag: ∃f,bT C "flag"=some f∧fs.lookup ("flag":Str)=none∧∀a∈dA,run 8 f [.d (.inst C fs),.d (.str a.k),.d (.bool true)] none=some (if (ar cs a.full).isEmpty then .ok (.bool true) else jo (br (ar cs a.full)),none)
 number: ∃f,bT C "number"=some f∧fs.lookup ("number":Str)=none∧∀a∈dA,run 8 f [.d (.inst C fs),.d (.str a.k),.d (.int 5)] none=some (if (ar cs a.full).isEmpty then .ok (.int 5) else oH (br (ar cs a.full)),none)
noncomputable def cK(cs:List Pc):D:=.lst (cs.map fun c=>dn c.r)
noncomputable def TR(x:Str)(l:Loc):Str×Loc:=(x,l)
theorem jw{β:Type}{f g:Ak→β}(e:dA.map f=dA.map g): ∀a:Ak,a∈dA→f a=g a:=fun a m=>List.map_inj_left.mp e a m
noncomputable def xy(a:Ak):D:=(kP a.k "split" [dS "."]).getD .none
noncomputable def DN(a:Ak):D:=match xy a with
 | .lst [_,_]=>.none
 | .lst (_::b::_)=>b
 |_=>.none
theorem xu{r:ba}{ns:ab}{e:Expr}{S:St}{Q:D→St→Prop}{g:D}(h:WD r ns e S fun d S'=>d=g∧S'=S)(hQ:Q g S):WD r ns e S Q:=by
 obtain ⟨d,S',h1,rfl,rfl⟩:=h;exact ⟨_,_,h1,hQ⟩
theorem fx{d:D}(h:cX 64 d):gR .NotEq d d=some false:=by
 show (AQ d d).map (!·)=_;rw [qV h];rfl
theorem ne_str{x:Str}:gR .NotEq (.str x) (.str x)=some false:=by
 show some (!(x==x))=_;rw [beq_self_eq_true];rfl
theorem vV:jg "repr" [.lst [.bool true,.int 5]]=some (.str "[True, 5]"):=by kernel_rfl
theorem CC{b:Bool}:cX 64 (.bool b):=⟨.bool b,rfl,rfl,Nat.zero_le _⟩
theorem qr{l:List D}(h:l.length≤100000):xi "list" [.lst l]=some (.lst l):=if_pos (Nat.le_trans h (by decide))
theorem po{cs:List Pc}(hc:cY cs){full:Str}:cX 0 (br (ar cs full)):=by
 by_cases h:ar cs full= []
 ·rw [h];exact ⟨.none,rfl,rfl,Nat.le_refl _⟩
 ·exact jr hc _ (mf h)
theorem mO{C:Addr}{fs:List (Str×D)}{cs:List Pc}(A:EJ C fs cs):run 9 921 [.d (.inst C fs),.d (cK cs)] none=some (.ok (.bool true),none):=by
 refine bo (F:=⟨bg 73,[]⟩) (by kernel_rfl) rfl (by kernel_rfl) (ρ0:=[("told",.d (.inst C fs)),("rows",.d (cK cs))]) (by kernel_rfl) (by walk_at "t") ?_
 try dsimp only [ai,ak]
 let base:List (Str×Loc):=[("told",.d (.inst C fs)),("rows",.d (cK cs))]
 refine aa (fM rfl (c8 (.tup (dA.map fun a=>.str a.k)) (by kernel_rfl) ⟨_,rfl,by decide+kernel, ?_⟩));refine fk (fun a:Ak=>.str a.k) (fun _ S=>∃t,Tl ["key","parts","below","wanted","own","last","number","flag"] t∧S= ⟨base++t,none⟩) dA (fun pre a post e S hS=> ?_) ⟨[],.inl rfl,rfl⟩ (fun S hS=> ?_)
 ·have ha:a∈dA:=by rw [e];simp
  clear e;obtain ⟨f1,m1,n1,c1⟩:=A.has;obtain ⟨f2,m2,n2,c2⟩:=A.get;obtain ⟨f3,m3,n3,c3⟩:=A.all;obtain ⟨f4,m4,n4,c4⟩:=A.flag;obtain ⟨f5,m5,n5,c5⟩:=A.number;replace c1:=c1 a ha;replace c2:=c2 a ha;replace c3:=c3 a ha;replace c4:=c4 a ha;replace c5:=c5 a ha;have xn:ar cs a.full≠[]→br (ar cs a.full)∈bU:=fun h=>n8 A.ok ha _ (mf h);have AZ:=po A.ok (full:=a.full);have xe:=jr A.ok (full:=a.full);have aP:=il A.ok (full:=a.full);have TY:=A.ok.1;obtain ⟨t,ht,rfl⟩:=hS;refine ⟨⟨base++lo "key" (.str a.k)::t.drop 1,none⟩,congrArg (fun l=>some (bH.ok (),(⟨base++l,none⟩:St))) ht.up1, ?_⟩
  try dsimp only [base,List.cons_append,List.nil_append]
  refine aa (bX rfl rfl rfl (by decide+kernel) (c8 (xy a) (by clear xe aP xn AZ c1 c2 c3 c4 c5;revert a;exact jw (by kernel_rfl)) ⟨_,by walk_at "u", ?_⟩))
  try dsimp only
  refine aa (bX rfl rfl rfl (by decide+kernel) (c8 (DN a) (by clear xe aP xn AZ c1 c2 c3 c4 c5;revert a;generalize e:t.drop (1+1)=l;apply ht.all e;exact jw (by kernel_rfl);(iterate 6 refine fun _=> ?_);exact jw (by kernel_rfl)) ⟨_,by walk_at "u", ?_⟩))
  try dsimp only
  refine aa (bX rfl rfl rfl (by decide+kernel) (c8 (.str a.full) (by clear xe aP xn AZ c1 c2 c3 c4 c5;revert a;generalize e:t.drop (1+1+1)=l;apply ht.all e;exact jw (by kernel_rfl);(iterate 5 refine fun _=> ?_);exact jw (by kernel_rfl)) ⟨_,by walk_at "u", ?_⟩))
  try dsimp only
  refine aa (oK (q:=⟨_,_,_,_,_,_⟩) rfl rfl (by decide+kernel) (jX cs (fun c=>dn c.r) (fun c=>c.r.h.key==a.full) (fun c=>c.r.v) (fun c=>[lo "wanted" (.str a.full),lo "near" (.str c.r.h.sec),lo "part" c.r.h.below,lo "word" (.str c.r.h.word),lo "value" c.r.v]) [lo "wanted" (.str a.full)] (by decide+kernel) (by decide+kernel) rfl ?_))
  try dsimp only
  refine af (by decide+kernel) (by walk_at "l") ⟨bw (by rw [List.length_map];lia),by lia,by kernel_rfl,rfl,fun x _=>rfl,fun x _ y=>rfl,fun c m=> ?_,fun x m _=>rfl, ?_⟩
  ·refine Cf (aF rfl (fZ rfl rfl (by decide+kernel) (by walk_at "l") (by walk_at "l") (a:=888) (by kernel_rfl) (by kernel_rfl) ?_))
   iterate 7 walk_at "w"
   refine ⟨rfl,_,B2 (n:=5) c.r.h (A.ok.2 c m).1,rfl,af (by decide+kernel) (by walk_at "l") ⟨_,rfl,rfl,rfl⟩⟩
  refine ⟨_,by walk_at "u", ?_⟩
  try dsimp only
  rw [show List.map (fun c:Pc=>c.r.v) (List.filter (fun c=>c.r.h.key==a.full) cs)=ar cs a.full from rfl];generalize ar cs a.full=vs at*;refine aa (bX rfl rfl rfl (by decide+kernel) (xu (g:=br vs) ?_ ⟨_,by walk_at "u", ?_⟩))
  ·refine Bc ?_
   iterate 2 walk_at "w"
   refine ⟨rfl, ?_⟩;iterate 2 walk_at "w"
   refine ⟨_,hB xe, ?_⟩
   cases he:vs.isEmpty with
   |true=>
    refine bD rfl ?_;walk_at "w"
    rw [List.isEmpty_iff.mp he];exact ⟨rfl,rfl⟩
   |false=>
    refine eC rfl ?_;refine ft rfl ?_;walk_at "w"
    exact c8 (.int (-1)) (by kernel_rfl) ⟨_,_,rfl,jL (fun e=>by rw [e] at he;cases he) (by lia),rfl,rfl⟩
  try dsimp only
  refine aa (bC (bu (dw (aF rfl ?_))));refine bh rfl rfl rfl (af (by decide+kernel) (by walk_at "l") ⟨C,fs,f1,rfl,m1,n1, ?_⟩);iterate 3 walk_at "w"
  refine ⟨rfl,_,c1,rfl, ?_⟩;iterate 2 walk_at "w"
  refine ⟨rfl, ?_⟩;iterate 2 walk_at "w"
  refine ⟨_,hB xe,_,fx CC, ?_⟩;refine bD rfl ?_;refine dw (aF rfl ?_);refine bh rfl rfl rfl (af (by decide+kernel) (by walk_at "l") ⟨C,fs,f2,rfl,m2,n2, ?_⟩);iterate 3 walk_at "w"
  refine ⟨rfl,_,c2,rfl, ?_⟩;walk_at "w"
  refine ⟨_,fx (eE AZ (by decide)), ?_⟩;refine bD rfl ?_;refine dw (aF rfl (nS rfl rfl (by decide+kernel) (by walk_at "l") (by walk_at "l") (id:="list") (by kernel_rfl) ?_));refine aI rfl (bh rfl rfl rfl (af (by decide+kernel) (by walk_at "l") ⟨C,fs,f3,rfl,m3,n3, ?_⟩));iterate 3 walk_at "w"
  refine ⟨rfl,_,c3, ?_⟩;walk_at "w"
  refine ⟨_,_,rfl,qr (by lia),rfl, ?_⟩;walk_at "w"
  refine ⟨_,fx (eE (ik xe) (by decide)), ?_⟩;refine bD rfl ?_;walk_at "w"
  refine bD rfl ?_;iterate 2 walk_at "w"
  have LX: ∃rp,jg "repr" [.lst [cj (if vs.isEmpty=true then bH.ok (.bool true) else jo (br vs)),cj (if vs.isEmpty=true then bH.ok (.int 5) else oH (br vs))]]=some (.str rp):=by
   cases he:vs.isEmpty with
   |true=>exact ⟨_,vV⟩
   |false=>
    obtain ⟨e1,e2⟩:=yT (br vs) (xn fun e=>by rw [e] at he;cases he);simp only [Bool.false_eq_true,if_false]
    cases hr:qb (br vs)<;>rw [hr] at e1 e2<;>first|exact ⟨_,e1⟩|cases e2
  obtain ⟨rp,LX⟩:=LX;refine sG (by kernel_rfl) (fq rfl (aL rfl (u7 rfl (by walk_at "l") (by walk_at "l") (by walk_at "l") rfl m4 n4 c4 (aL rfl (u7 rfl (by walk_at "l") (by walk_at "l") (by walk_at "l") rfl m5 n5 c5 (lN ?_))))));refine ⟨_,⟨[("told",.d (.inst C fs)),("rows",.d (cK cs)),lo "key" (.str a.k),lo "parts" (xy a),lo "below" (DN a),lo "wanted" (.str a.full),lo "own" (.lst vs),lo "last" (br vs),lo "number" (cj (if vs.isEmpty=true then bH.ok (.int 5) else oH (br vs))),lo "flag" (cj (if vs.isEmpty=true then bH.ok (.bool true) else jo (br vs)))],none⟩,rfl,by rcases ht.two (k:=1+1+1+1+1+1) rfl with e|⟨_,_,e⟩<;>rw [e]<;>rfl, ?_⟩
  try dsimp only
  refine aa (bC (aF rfl (iT rfl rfl (by decide+kernel) (by walk_at "l") (by walk_at "l") (id:="repr") (by kernel_rfl) ?_)));iterate 8 walk_at "w"
  refine ⟨_,_,rfl,LX,rfl, ?_⟩;refine iT rfl rfl (by decide+kernel) (by walk_at "l") (by walk_at "l") (id:="repr") (by kernel_rfl) (aI rfl (xu (g:=.lst [cj (if vs.isEmpty=true then bH.ok (.bool true) else jo (br vs)),cj (if vs.isEmpty=true then bH.ok (.int 5) else oH (br vs))]) ?_ (bn ?_)))
  ·refine Bc ?_
   iterate 2 walk_at "w"
   refine ⟨rfl, ?_⟩;iterate 2 walk_at "w"
   refine ⟨_,hB xe, ?_⟩
   cases he:vs.isEmpty with
   |true=>
    refine bD rfl ?_;iterate 6 walk_at "w"
    exact ⟨rfl,rfl⟩
   |false=>
    refine eC rfl ?_;have hv:=xn fun e=>by rw [e] at he;cases he
    refine DI rfl (aL rfl (fZ rfl rfl (by decide+kernel) (by walk_at "l") (by walk_at "l") (a:=909) (by kernel_rfl) (by kernel_rfl) ?_));iterate 3 walk_at "w"
    refine ⟨rfl,_,vC _ hv, ?_⟩;refine aL rfl (fZ rfl rfl (by decide+kernel) (by walk_at "l") (by walk_at "l") (a:=902) (by kernel_rfl) (by kernel_rfl) ?_);iterate 3 walk_at "w"
    refine ⟨rfl,_,td _ hv,lN ⟨?_,rfl⟩⟩;simp only [Bool.false_eq_true,if_false]
  refine ⟨_,_,rfl,LX,_,ne_str, ?_⟩;refine bD rfl ?_;iterate 2 walk_at "w"
  exact ⟨fun v e=>(nomatch e),_,.inr rfl,rfl⟩
 ·dsimp only [base] at hS
  obtain ⟨t,ht,rfl⟩:=hS
  try dsimp only [List.cons_append,List.nil_append]
  iterate 3 walk_at "w"
  exact ⟨rfl,rfl⟩
theorem iI{cs:List Pc}(hc:cY cs){a:Ak}(ha:a∈dA):br (ar cs a.full)∈bU:=by
 by_cases h:ar cs a.full= []
 ·rw [h];exact List.mem_cons_self
 ·exact n8 hc ha _ (mf h)
theorem wO{ls:List (Str×List Pc)}(hc:gO ls):EJ 774 [("levels",.lst (ls.map dr)),("loader",lB),("facts",i4)] (ao ls) where
 ok:=hc.all
 has:=⟨707,by kernel_rfl,rfl,fun a ha=>lV (n:=2) hc a (ef ha)⟩
 get:=⟨714,by kernel_rfl,rfl,fun a ha=>ig (n:=2) hc a (ef ha)⟩
 all:=⟨700,by kernel_rfl,rfl,fun a ha=>jC (n:=3) hc a (ef ha)⟩
 flag:=⟨722,by kernel_rfl,rfl,fun a ha=>vK (n:=1) hc a (ef ha) (ql _ (iI hc.all ha))⟩
 number:=⟨730,by kernel_rfl,rfl,fun a ha=>rl (n:=1) hc a (ef ha) (uG _ (iI hc.all ha))⟩
theorem wP{cs:List Pc}(hc:cY cs):EJ 575 [("pieces",.lst ((kN cs).map lf))] cs where
 ok:=hc
 has:=⟨459,by kernel_rfl,rfl,fun a ha=>mw (n:=2) hc a (ef ha)⟩
 get:=⟨466,by kernel_rfl,rfl,fun a ha=>my (n:=2) hc a (ef ha)⟩
 all:=⟨471,by kernel_rfl,rfl,fun a ha=>zX (n:=2) hc a (ef ha)⟩
 flag:=⟨564,by kernel_rfl,rfl,fun a ha=>wD (n:=1) hc a (ef ha) (ql _ (iI hc ha))⟩
 number:=⟨572,by kernel_rfl,rfl,fun a ha=>rM (n:=1) hc a (ef ha) (uG _ (iI hc ha))⟩
structure Sc where
 s:Str
 low:Str
noncomputable def fh:List Sc:=[⟨"remote","remote"⟩,⟨"Branch","branch"⟩,⟨"core","core"⟩,⟨"url","url"⟩]
noncomputable def jj(s:Sc)(h:Hd):Option Str:=match h.below with
 | .str b=>if (Txt.lower h.sec)==s.low then some b else none
 |_=>none
noncomputable def co(s:Sc)(cU:List Str)(c:Pc):List Str:=match jj s c.r.h with
 |some b=>if cU.any (· ==b) then cU else cU++ [b]
 |none=>cU
noncomputable def ci(s:Sc)(cs:List Pc):List Str:=cs.foldl (co s) []
theorem sD:(fh.all fun s=>aX.all fun h=>match jj s h with|some b=>(PyData.str b).canLay0|none=>true)=true:=by kernel_rfl
theorem xS{β:Type}{f g:Sc→β}(e:fh.map f=fh.map g): ∀a:Sc,a∈fh→f a=g a:=fun a m=>List.map_inj_left.mp e a m
theorem uh{β:Type}{f g:Sc→Hd→β}(e:(fh.map fun a=>aX.map (f a))=fh.map fun a=>aX.map (g a)): ∀a:Sc,a∈fh→∀h:Hd,h∈aX→f a h=g a h:=fun a m h mh=>List.map_inj_left.mp (List.map_inj_left.mp e a m) h mh
noncomputable def lL(s:Sc):Str:=s.low++"."
noncomputable def t1(s:Sc)(h:Hd):Bool:=Txt.startswith h.key (lL s)
noncomputable def t2(s:Sc)(h:Hd):Bool:=decide (Txt.rfind h.key "."≥ ((lL s).length:Int))
noncomputable def t3(s:Sc)(h:Hd):Str:=Txt.slice h.key (some ((lL s).length:Int)) (some (Txt.rfind h.key "."))
theorem ET: ∀s:Sc,s∈fh→∀h:Hd,h∈aX→jj s h=if t1 s h&&t2 s h then some (t3 s h) else none:=uh (by kernel_rfl)
theorem BM(cU:List Str):gV (cU.map D.str)=some (cU.map PyData.str):=by
 induction cU with
 |nil=>rfl
 |cons x r ih=>exact congrArg (fun o=>Option.map (PyData.str x:: ·) o) ih
theorem uZ{b:Str}{cU:List Str}(hb:(PyData.str b).canLay0=true)(ha: ∀x∈cU,(PyData.str x).canLay0=true):As (.str b) (.lst (cU.map D.str))=some (cU.any (· ==b)):=by
 have e1:As (.str b) (.lst (cU.map D.str))=Gw (.str b) (.list (cU.map PyData.str)):=by
  show (D.lst (cU.map D.str)).py.bind (fun q=>Gw (.str b) q)=_;rw [show (D.lst (cU.map D.str)).py=some (.list (cU.map PyData.str)) from congrArg (Option.map PyData.list) (BM cU)];rfl
 rw [e1];have e2:PyData.canLayAll0 (cU.map PyData.str)=true:=by
  clear e1
  induction cU with
  |nil=>rfl
  |cons x r ih=>rw [List.map_cons,PyData.canLayAll0,ha x List.mem_cons_self,ih fun y m=>ha y (List.mem_cons_of_mem _ m)];rfl
 have e3:fK (.str b)=true:=by unfold fK;rw [hb];rfl
 unfold Gw
 try dsimp only
 rw [e2,e3];refine (if_pos rfl).trans (congrArg some ?_);clear e1 e2 ha
 induction cU with
 |nil=>rfl
 |cons x r ih=>rw [List.map_cons,List.any_cons,List.any_cons,ih];rfl
theorem pb{s:Sc}(hs:s∈fh)(cs:List Pc):(∀c∈cs,cW c.r)→∀cU:List Str,(∀x∈cU,(PyData.str x).canLay0=true)→(∀x∈cs.foldl (co s) cU,(PyData.str x).canLay0=true)∧(cs.foldl (co s) cU).length≤cU.length+cs.length:=by
 induction cs with
 |nil=>exact fun _ cU h=>⟨h,Nat.le_refl _⟩
 |cons c r ih=>
  intro hc cU h;have hb: ∀b,jj s c.r.h=some b→(PyData.str b).canLay0=true:=fun b e=>by
   have:=List.all_eq_true.mp (List.all_eq_true.mp sD s hs) c.r.h (hc c List.mem_cons_self).1;rw [e] at this;exact this
  have h1:(∀x∈co s cU c,(PyData.str x).canLay0=true)∧(co s cU c).length≤cU.length+1:=by
   unfold co
   cases e:jj s c.r.h with
   |none=>exact ⟨h,Nat.le_succ _⟩
   |some b=>
    show (∀x∈ (if cU.any (· ==b)=true then cU else cU++ [b]),(PyData.str x).canLay0=true)∧(if cU.any (· ==b)=true then cU else cU++ [b]).length≤cU.length+1
    cases cU.any (· ==b) with
    |true=>exact ⟨h,Nat.le_succ _⟩
    |false=>
     refine ⟨fun x m=> ?_,Nat.le_of_eq List.length_append⟩;exact (List.mem_append.mp m).elim (h x) fun m=>List.mem_singleton.mp m▸hb b e
  obtain ⟨g1,g2⟩:=ih (fun y m=>hc y (List.mem_cons_of_mem _ m)) _ h1.1;exact ⟨g1,by rw [List.foldl_cons,List.length_cons];lia⟩
theorem vG{n:Nat}{ls:List (Str×List Pc)}(hc:gO ls)(s:Sc)(hs:s∈fh):run (n+4) 737 [.d (aS ls),.d (.str s.s)] none=some (.ok (.lst ((ci s (ao ls)).map .str)),none):=by
 refine bo (F:=⟨bB 54 8,[]⟩) (by kernel_rfl) rfl (by kernel_rfl) (ρ0:=[("self",.d (aS ls)),("section",.d (.str s.s))]) (by kernel_rfl) (by walk_at "o") ?_
 try dsimp only [ai,ak]
 refine aa (bX rfl rfl rfl (by decide+kernel) (c8 (.str (lL s)) (by revert s;exact xS (by kernel_rfl)) ⟨_,by walk_at "u", ?_⟩));iterate 2 walk_at "w"
 have hl:=hc.all;refine aa (fM rfl (bh rfl rfl rfl (af (by decide+kernel) (by walk_at "l") ⟨774,_,695,rfl,by kernel_rfl,rfl,bn ⟨rfl,_,i9 hc, ?_⟩⟩)))
 let base:List Pc→List (Str×Loc):=fun pre=>[("self",.d (aS ls)),lo "section" (.str s.s),lo "near" (.str (lL s)),("found",.own ((ci s pre).map .str))]
 refine ⟨_,bw (by rw [List.length_map];have:=hl.1;lia),by rw [List.length_map];have:=hl.1;lia, ?_⟩;refine fk (fun c:Pc=>gG c.r) (fun pre S=>∃t,Tl ["key","value","there"] t∧S= ⟨base pre++t,none⟩) (ao ls) (fun pre c post e S hS=> ?_) ⟨[],.inl rfl,rfl⟩ (fun S hS=> ?_)
 ·have hr:=hl.2 c (by rw [e];simp)
  obtain ⟨g1,g2⟩:=pb hs pre (fun x m=>hl.2 x (by rw [e];exact List.mem_append_left _ m)) [] (fun x m=>nomatch m);have pX:pre.length≤100:=by have:=hl.1;rw [e,List.length_append] at this;lia
  have aP:(ci s pre).length≤100:=by unfold ci;have:([]:List Str).length=0:=rfl;lia
  have hb: ∀b,jj s c.r.h=some b→(PyData.str b).canLay0=true:=fun b e=>by
   have:=List.all_eq_true.mp (List.all_eq_true.mp sD s hs) c.r.h hr.1;rw [e] at this;exact this
  have nv:=ET s hs c.r.h hr.1;have dJ:ci s (pre++ [c])=co s (ci s pre) c:=by unfold ci;rw [List.foldl_append];rfl
  obtain ⟨⟨h,v⟩,b1,b2,b3⟩:=c;have hh:=hr.1;dsimp only at hh hb nv;have xf: ∀x∈ci s pre,(PyData.str x).canLay0=true:=g1;generalize A7:ci s pre=cU at aP dJ xf;clear hr e g1 g2;obtain ⟨t,ht,rfl⟩:=hS;refine ⟨⟨base pre++lo "key" (.str h.key)::lo "value" v::t.drop 2,none⟩,by apply ht.all (l:=t) (k:=0) rfl;exact rfl;exact fun _ _ _=>rfl, ?_⟩
  try dsimp only [base,List.cons_append,List.nil_append]
  rw [A7,dJ];refine aa (bX rfl rfl rfl (by decide+kernel) (c8 (.int (Txt.rfind h.key ".")) (by kernel_rfl) ⟨_,by walk_at "u", ?_⟩))
  try dsimp only
  refine aa (bC (bu (bj (EH (t1 s h) (by kernel_rfl) ?_))))
  cases h1:t1 s h with
  |false=>
   have hn:co s cU ⟨⟨h,v⟩,b1,b2,b3⟩=cU:=by unfold co;dsimp only;rw [nv,h1];rfl
   rw [hn,if_neg Bool.false_ne_true,if_neg Bool.false_ne_true];iterate 2 walk_at "w"
   exact ⟨fun v e=>(nomatch e),_,.inr rfl,rfl⟩
  |true=>
   rw [if_pos rfl];refine bj (EH (t2 s h) (by clear h1;clear hb nv dJ xf A7;clear base;revert h;revert s;exact uh (by kernel_rfl)) ?_)
   cases h2:t2 s h with
   |false=>
    have hn:co s cU ⟨⟨h,v⟩,b1,b2,b3⟩=cU:=by unfold co;dsimp only;rw [nv,h1,h2];rfl
    rw [hn,if_neg Bool.false_ne_true,if_neg Bool.false_ne_true];iterate 2 walk_at "w"
    exact ⟨fun v e=>(nomatch e),_,.inr rfl,rfl⟩
   |true=>
    rw [if_pos rfl];have Ed:=hb (t3 s h) (by rw [nv,h1,h2];rfl);refine bj (yJ rfl (c8 (.str (t3 s h)) (by clear h1 h2 Ed;clear hb nv dJ xf A7;clear base;revert h;revert s;exact uh (by kernel_rfl)) ⟨cU.map .str,true,_,by kernel_rfl,uZ Ed xf, ?_⟩))
    cases h3:cU.any (· ==t3 s h) with
    |true=>
     have hn:co s cU ⟨⟨h,v⟩,b1,b2,b3⟩=cU:=by unfold co;dsimp only;rw [nv,h1,h2];exact if_pos h3
     rw [hn,if_pos rfl,if_neg (by exact Bool.false_ne_true),if_neg Bool.false_ne_true];iterate 2 walk_at "w"
     exact ⟨fun v e=>(nomatch e),_,.inr rfl,rfl⟩
    |false=>
     have hn:co s cU ⟨⟨h,v⟩,b1,b2,b3⟩=cU++ [t3 s h]:=by unfold co;dsimp only;rw [nv,h1,h2];exact if_neg (by rw [h3];exact Bool.false_ne_true)
     rw [hn,if_pos rfl,if_pos (by rfl)];refine dB ?_;rw [if_pos rfl];refine aa (jk rfl rfl (by walk_at "l") rfl (by walk_at "l") (c8 (.str (t3 s h)) (by clear hn h1 h2 Ed h3;clear hb nv dJ xf A7;clear base;revert h;revert s;exact uh (by kernel_rfl)) ⟨_,_,by walk_at "l",by rw [List.length_map];lia,by walk_at "u", ?_⟩));iterate 2 walk_at "w"
     refine ⟨fun v e=>(nomatch e), ?_⟩;rw [List.map_append];exact ⟨_,.inr rfl,rfl⟩
 ·dsimp only [base] at hS
  obtain ⟨t,ht,rfl⟩:=hS
  try dsimp only [List.cons_append,List.nil_append]
  iterate 2 walk_at "w"
  refine nT (by decide+kernel) (by walk_at "l") (by walk_at "l") (by walk_at "u") ⟨rfl,rfl⟩
structure Uq where
 word:Str
 url:Str
noncomputable def gD:List Uq:=[⟨"insteadof","A:x/y"⟩,⟨"insteadof","A:"⟩,⟨"insteadof","B"⟩,⟨"insteadof","C:B"⟩,⟨"pushinsteadof","A:x/y"⟩,⟨"pushinsteadof","A:"⟩,⟨"pushinsteadof","B"⟩,⟨"pushinsteadof","C:B"⟩]
noncomputable abbrev Fo:=Option (Str×Str)
noncomputable def eO:List Fo:=[none,some ("git://a/","A:"),some ("git://b/","A:x/"),some ("ssh://c/","B")]
noncomputable def SO:Fo→D
 |none=>.none
 |some (b,v)=>.tup [.str b,.str v]
noncomputable def FC:Fo→D
 |none=>.none
 |some (b,_)=>.str b
noncomputable def Fz:Fo→D
 |none=>.int (-1)
 |some (_,v)=>.int v.length
noncomputable def Gr(h:Hd):D:=(cq h).headD .none
noncomputable def strOf:D→Str
 | .str x=>x
 |_=>""
noncomputable def vq(h:Hd)(v:D):D:=if h.sec=="url" then Gr h else v
theorem Bk:(aX.all fun h=> !(h.sec=="url")|| (cq h).length==1)=true:=by kernel_rfl
theorem uH{r:Rw}(hr:cW r):r.v=vq r.h r.v:=by
 unfold vq
 split
 ·rename_i h
  have h1:=List.all_eq_true.mp Bk r.h hr.1;rw [h] at h1;have h2:(cq r.h).length=1:=by simpa using h1
  have h3:=hr.2;unfold Gr
  cases hv:cq r.h with
  |nil=>rw [hv] at h2;cases h2
  |cons x l=>
   cases l with
   |nil=>rw [hv] at h3;exact List.mem_singleton.mp h3
   |cons=>rw [hv] at h2;cases h2
 ·rfl
noncomputable def Hb(h:Hd):Fo:=some (strOf h.below,strOf (Gr h))
noncomputable def FA(st:Fo)(v:Str):Bool:=match st with
 |none=>true
 |some (_,u)=>decide (u.length<v.length)
noncomputable def hU(q:Uq)(st:Fo)(h:Hd):Fo:=if h.sec=="url"&&h.iname==q.word&&Txt.startswith q.url (strOf (Gr h))&&FA st (strOf (Gr h)) then Hb h else st
theorem zP:(aX.all fun h=> !(h.sec=="url")||decide (Hb h∈eO))=true:=by decide+kernel
theorem ud{q:Uq}{st:Fo}{h:Hd}(hs:st∈eO)(hh:h∈aX):hU q st h∈eO:=by
 unfold hU
 split
 ·rename_i e
  have h1:=List.all_eq_true.mp zP h hh;simp only [Bool.and_eq_true] at e;rw [e.1.1.1] at h1
  simpa using h1
 ·exact hs
noncomputable def fF(q:Uq)(cs:List Pc):Fo:=cs.foldl (fun st c=>hU q st c.r.h) none
theorem iu{q:Uq}(cs:List Pc): ∀(st:Fo),st∈eO→(∀c∈cs,cW c.r)→cs.foldl (fun st c=>hU q st c.r.h) st∈eO:=by
 induction cs with
 |nil=>exact fun st hs _=>hs
 |cons c r ih=>exact fun st hs hc=>ih _ (ud hs (hc c List.mem_cons_self).1) fun x m=>hc x (List.mem_cons_of_mem _ m)
theorem sA{β:Type}{f g:Uq→Fo→β}(e:(gD.map fun q=>eO.map (f q))=gD.map fun q=>eO.map (g q)): ∀q:Uq,q∈gD→∀st:Fo,st∈eO→f q st=g q st:=fun q m st ms=>List.map_inj_left.mp (List.map_inj_left.mp e q m) st ms
theorem Dm{β:Type}{f g:Uq→Fo→Hd→β}(e:(gD.map fun q=>eO.map fun st=>aX.map (f q st))=gD.map fun q=>eO.map fun st=>aX.map (g q st)): ∀q:Uq,q∈gD→∀st:Fo,st∈eO→∀h:Hd,h∈aX→f q st h=g q st h:=fun q m st ms h mh=>List.map_inj_left.mp (List.map_inj_left.mp (List.map_inj_left.mp e q m) st ms) h mh
noncomputable def jn(q:Uq)(st:Fo):D:=match st with
 |none=>.none
 |some (b,v)=>.str (b++Txt.slice q.url (some (v.length:Int)) none)
theorem GL{r:ba}{ns:ab}{l:List Stmt}{S:St}{QX:Fl→St→Prop}(f:Fl)(h:lj r ns l S=some (.ok f,S))(hQ:QX f S):WX r ns l S QX:=⟨f,S,h,hQ⟩
theorem yc{n:Nat}{cs:List Pc}(hc:cY cs)(q:Uq)(hq:q∈gD):run (n+3) 928 [.d (cK cs),.d (.str q.word),.d (.str q.url)] none=some (.ok (jn q (fF q cs)),none):=by
 refine bo (F:=⟨bg 74,[]⟩) (by kernel_rfl) rfl (by kernel_rfl) (ρ0:=[("rows",.d (cK cs)),("word",.d (.str q.word)),("url",.d (.str q.url))]) (by kernel_rfl) (by walk_at "t") ?_
 try dsimp only [ai,ak]
 iterate 4 walk_at "w"
 let base:Fo→List (Str×Loc):=fun st=>[("rows",.d (cK cs)),("word",.d (.str q.word)),("url",.d (.str q.url)),lo "found" (SO st)]
 refine aa (fM rfl ?_);refine af (by decide+kernel) (by walk_at "l") ⟨_,bw (by rw [List.length_map];have:=hc.1;lia),by rw [List.length_map];have:=hc.1;lia, ?_⟩;refine fk (fun c:Pc=>dn c.r) (fun pre S=>S= ⟨base (fF q pre),none⟩∨∃a b c d,S= ⟨base (fF q pre)++ [lo "section" a,lo "below" b,lo "one" c,lo "value" d],none⟩) cs (fun pre c post e S hS=> ?_) (.inl rfl) (fun S hS=> ?_)
 ·have hr:=hc.2 c (by rw [e];simp)
  have em:fF q pre∈eO:=iu pre _ (by decide+kernel) fun x m=>hc.2 x (by rw [e];exact List.mem_append_left _ m);have dJ:fF q (pre++ [c])=hU q (fF q pre) c.r.h:=by unfold fF;rw [List.foldl_append];rfl
  have hu:=uH hr;have hh:=hr.1;rw [dJ];generalize fF q pre=st at em hS ⊢;obtain ⟨⟨h,v⟩,b1,b2,b3⟩:=c;dsimp only at hh hu ⊢;refine ⟨⟨base st++ [lo "section" (.str h.sec),lo "below" h.below,lo "one" (.str h.word),lo "value" (vq h v)],none⟩, ?_, ?_⟩
  ·rw [←hu]
   rcases hS with rfl|⟨k1,k2,k3,k4,rfl⟩<;>rfl
  clear hu hr hS dJ e;refine Ml .next ⟨base (hU q st h)++ [lo "section" (.str h.sec),lo "below" h.below,lo "one" (.str h.word),lo "value" (vq h v)],none⟩ ?_ ⟨fun v e=>(nomatch e),.inr ⟨_,_,_,_,rfl⟩⟩
  try dsimp only [base]
  revert h;revert st;clear base;revert q;exact Dm (by kernel_rfl)
 ·have em:fF q cs∈eO:=iu cs _ (by decide+kernel) hc.2
  generalize fF q cs=st at em hS ⊢;dsimp only [base] at hS;clear base;rcases hS with rfl|⟨k1,k2,k3,k4,rfl⟩
  all_goals
   try dsimp only [List.cons_append,List.nil_append]
   refine GL (.ret (jn q st)) ?_ ⟨rfl,rfl⟩;revert st;revert q;exact sA (by kernel_rfl)
theorem o9{n:Nat}{ls:List (Str×List Pc)}(hc:gO ls)(q:Uq)(hq:q∈gD):run (n+4) 744 [.d (aS ls),.d (.str q.word),.d (.str q.url)] none=some (.ok (jn q (fF q (ao ls))),none):=by
 refine bo (F:=⟨bB 54 9,[]⟩) (by kernel_rfl) rfl (by kernel_rfl) (ρ0:=[("self",.d (aS ls)),("name",.d (.str q.word)),("url",.d (.str q.url))]) (by kernel_rfl) (by walk_at "o") ?_
 try dsimp only [ai,ak]
 have hl:=hc.all;refine aa (Mp .next ⟨[("self",.d (aS ls)),("name",.d (.str q.word)),("url",.d (.str q.url)),lo "base" .none,lo "size" (.int (-1))],none⟩ (by kernel_rfl) ?_)
 try dsimp only
 let base:Fo→List (Str×Loc):=fun st=>[("self",.d (aS ls)),("name",.d (.str q.word)),("url",.d (.str q.url)),lo "base" (FC st),lo "size" (Fz st)]
 refine aa (fM rfl (bh rfl rfl rfl (af (by decide+kernel) (by walk_at "l") ⟨774,_,695,rfl,by kernel_rfl,rfl,bn ⟨rfl,_,i9 hc, ?_⟩⟩)));refine ⟨_,bw (by rw [List.length_map];have:=hl.1;lia),by rw [List.length_map];have:=hl.1;lia, ?_⟩;refine fk (fun c:Pc=>gG c.r) (fun pre S=>S= ⟨base (fF q pre),none⟩∨∃a b,S= ⟨base (fF q pre)++ [lo "key" a,lo "value" b],none⟩) (ao ls) (fun pre c post e S hS=> ?_) (.inl rfl) (fun S hS=> ?_)
 ·have hr:=hl.2 c (by rw [e];simp)
  have em:fF q pre∈eO:=iu pre _ (by decide+kernel) fun x m=>hl.2 x (by rw [e];exact List.mem_append_left _ m);have dJ:fF q (pre++ [c])=hU q (fF q pre) c.r.h:=by unfold fF;rw [List.foldl_append];rfl
  have hu:=uH hr;have hh:=hr.1;rw [dJ];generalize fF q pre=st at em hS ⊢;obtain ⟨⟨h,v⟩,b1,b2,b3⟩:=c;dsimp only at hh hu ⊢;refine ⟨⟨base st++ [lo "key" (.str h.key),lo "value" (vq h v)],none⟩, ?_, ?_⟩
  ·rw [←hu]
   rcases hS with rfl|⟨k1,k2,rfl⟩<;>rfl
  clear hu hr hS dJ e;refine Ml .next ⟨base (hU q st h)++ [lo "key" (.str h.key),lo "value" (vq h v)],none⟩ ?_ ⟨fun v e=>(nomatch e),.inr ⟨_,_,rfl⟩⟩
  try dsimp only [base]
  revert h;revert st;clear base;revert q;exact Dm (by kernel_rfl)
 ·have em:fF q (ao ls)∈eO:=iu _ _ (by decide+kernel) hl.2
  generalize fF q (ao ls)=st at em hS ⊢;dsimp only [base] at hS;clear base;rcases hS with rfl|⟨k1,k2,rfl⟩
  all_goals
   try dsimp only [List.cons_append,List.nil_append]
   refine GL (.ret (jn q st)) ?_ ⟨rfl,rfl⟩;revert st;revert q;exact sA (by kernel_rfl)
noncomputable def pT:List Str:=["A:x/y","A:","B","C:B"]
noncomputable def gF(u:Str):Uq:=⟨"insteadof",u⟩
noncomputable def jU(u:Str):Uq:=⟨"pushinsteadof",u⟩
theorem Em{u:Str}(h:u∈pT):gF u∈gD∧jU u∈gD:=by
 unfold pT at h;simp only [List.mem_cons,List.not_mem_nil,or_false] at h;rcases h with rfl|rfl|rfl|rfl<;> (unfold gD gF jU;simp)
noncomputable def Ga(a b:D):D:=match a with
 | .none=>b
 |d=>d
theorem Aa(q:Uq)(st:Fo):jn q st= .none∨∃x,jn q st= .str x:=by
 unfold jn
 split
 ·exact .inl rfl
 ·exact .inr ⟨_,rfl⟩
noncomputable def rY(q:Uq)(cs:List Pc):D:=jn q (fF q cs)
theorem iK(q:Uq)(cs:List Pc):rY q cs= .none∨∃x,rY q cs= .str x:=Aa q _
theorem yE{cs:List Pc}(hc:cY cs){q:Uq}(hq:q∈gD):cX 0 (rY q cs):=oR (sA (f:=fun q st=>Gb (jn q st)) (g:=fun _ _=>true) (by kernel_rfl) q hq _ (iu cs _ (by decide+kernel) hc.2))
theorem qs{n:Nat}{ls:List (Str×List Pc)}(hc:gO ls)(u:Str)(hu:u∈pT):run (n+5) 751 [.d (aS ls),.d (.str u)] none=some (.ok (Ga (rY (gF u) (ao ls)) (.str u)),none):=by
 refine bo (F:=⟨bB 54 10,[]⟩) (by kernel_rfl) rfl (by kernel_rfl) (ρ0:=[("self",.d (aS ls)),("url",.d (.str u))]) (by kernel_rfl) (by walk_at "o") ?_
 try dsimp only [ai,ak]
 have h1:=o9 (n:=n) hc (gF u) (Em hu).1;change _=some (bH.ok (rY (gF u) (ao ls)),none) at h1
 have h2:=iK (gF u) (ao ls);generalize rY (gF u) (ao ls)=g at h1 h2 ⊢;iterate 2 walk_at "w"
 refine bh rfl rfl rfl (af (by decide+kernel) (by walk_at "l") ⟨774,_,744,rfl,by kernel_rfl,rfl, ?_⟩);iterate 5 walk_at "w"
 refine ⟨rfl,_,h1, ?_⟩;iterate 6 walk_at "w"
 refine ⟨rfl, ?_⟩;walk_at "w"
 rcases h2 with rfl|⟨x,rfl⟩
 ·refine ⟨true,rfl, ?_⟩
  refine eC rfl ?_;walk_at "w"
  exact ⟨rfl,rfl⟩
 ·refine ⟨false,rfl, ?_⟩
  refine bD rfl ?_;walk_at "w"
  exact ⟨rfl,rfl⟩
theorem vJ{n:Nat}{ls:List (Str×List Pc)}(hc:gO ls)(u:Str)(hu:u∈pT):run (n+6) 758 [.d (aS ls),.d (.str u)] none=some (.ok (Ga (rY (jU u) (ao ls)) (Ga (rY (gF u) (ao ls)) (.str u))),none):=by
 refine bo (F:=⟨bB 54 11,[]⟩) (by kernel_rfl) rfl (by kernel_rfl) (ρ0:=[("self",.d (aS ls)),("url",.d (.str u))]) (by kernel_rfl) (by walk_at "o") ?_
 try dsimp only [ai,ak]
 have h1:=o9 (n:=n+1) hc (jU u) (Em hu).2;change _=some (bH.ok (rY (jU u) (ao ls)),none) at h1
 have h2:=iK (jU u) (ao ls);have h3:=qs (n:=n) hc u hu;generalize rY (jU u) (ao ls)=g at h1 h2 ⊢;iterate 2 walk_at "w"
 refine bh rfl rfl rfl (af (by decide+kernel) (by walk_at "l") ⟨774,_,744,rfl,by kernel_rfl,rfl, ?_⟩);iterate 5 walk_at "w"
 refine ⟨rfl,_,h1, ?_⟩;iterate 6 walk_at "w"
 refine ⟨rfl, ?_⟩;walk_at "w"
 rcases h2 with rfl|⟨x,rfl⟩
 ·refine ⟨true,rfl, ?_⟩
  refine eC rfl ?_;refine bh rfl rfl rfl (af (by decide+kernel) (by walk_at "l") ⟨774,_,751,rfl,by kernel_rfl,rfl, ?_⟩);iterate 3 walk_at "w"
  exact ⟨rfl,_,h3,rfl,rfl⟩
 ·refine ⟨false,rfl, ?_⟩
  refine bD rfl ?_;walk_at "w"
  exact ⟨rfl,rfl⟩
theorem xA{a b:D}{k:Nat}(ha:cX k a)(hb:cX k b):cX k (Ga a b):=by
 cases a with
 |none=>exact hb
 |_=>exact ha
theorem EG{fn:au}{k:Nat}{ns:ab}{S:St}{Q:D→St→Prop}{b:Expr}{x:Str}{xp xq p p' q:Pos}{i:Nat}{g e:D}(hm:behindInMarks .IsNot (.Constant .none i p')=false)(hn:(x== ("__debug__":Str))=false)(h1:S.ρ.lookup x=some (.d g))(h2:g= .none∨∃y,g= .str y)(h3:WD (ah fn (k+2)) ns b S fun d S'=>d=e∧S'=S)(hQ:Q (Ga g e) S):WD (ah fn (k+3)) ns (.IfExp (.Compare (.Name x xp) [.IsNot] [.Constant .none i p'] p) (.Name x xq) b q) S Q:=by
 refine Bc (aF hm (af hn h1 ⟨rfl,aj rfl ?_⟩));rcases h2 with rfl|⟨y,rfl⟩
 ·refine ⟨false,rfl, ?_⟩
  refine bD rfl ?_;obtain ⟨d,S',h4,rfl,rfl⟩:=h3;exact ⟨_,_,h4,hQ⟩
 ·refine ⟨true,rfl, ?_⟩
  refine eC rfl ?_;exact af hn h1 hQ
theorem tf{ls:List (Str×List Pc)}(hc:gO ls):run 9 935 [.d (aS ls),.d (cK (ao ls))] none=some (.ok (.bool true),none):=by
 refine bo (F:=⟨bg 75,[]⟩) (by kernel_rfl) rfl (by kernel_rfl) (ρ0:=[("told",.d (aS ls)),("rows",.d (cK (ao ls)))]) (by kernel_rfl) (by walk_at "t") ?_
 try dsimp only [ai,ak]
 let base:List (Str×Loc):=[("told",.d (aS ls)),("rows",.d (cK (ao ls)))]
 have hl:=hc.all;refine aa (fM rfl (c8 (.tup (pT.map fun a=>.str a)) (by kernel_rfl) ⟨_,rfl,by decide+kernel, ?_⟩));refine fk (fun a:Str=>.str a) (fun _ S=>∃t,Tl ["url","near","far","due"] t∧S= ⟨base++t,none⟩) pT (fun pre u post e S hS=> ?_) ⟨[],.inl rfl,rfl⟩ (fun S hS=> ?_)
 ·have hu:u∈pT:=by rw [e];simp
  clear e;obtain ⟨u1,u2⟩:=Em hu;have c1:run 8 928 [.d (cK (ao ls)),.d (.str ("insteadof")),.d (.str u)] none=some (.ok (rY (gF u) (ao ls)),none):=yc (n:=5) hl (gF u) u1;have c2:run 8 928 [.d (cK (ao ls)),.d (.str ("pushinsteadof")),.d (.str u)] none=some (.ok (rY (jU u) (ao ls)),none):=yc (n:=5) hl (jU u) u2;have c3:=qs (n:=3) hc u hu;have c4:=vJ (n:=2) hc u hu;have c5:run 8 744 [.d (aS ls),.d (.str ("pushinsteadof")),.d (.str u)] none=some (.ok (rY (jU u) (ao ls)),none):=o9 (n:=4) hc (jU u) u2;have s1:=iK (gF u) (ao ls);have s2:=iK (jU u) (ao ls);have y1:=yE hl u1;have y2:=yE hl u2;have yu:cX 0 (.str u):=by
   refine oR ?_;clear y1 y2 s1 s2 c1 c2 c3 c4 c5 u1 u2 hS;exact List.all_eq_true.mp (show (pT.all fun u=>Gb (.str u))=true from by kernel_rfl) u hu
  generalize rY (gF u) (ao ls)=NZ at*;generalize rY (jU u) (ao ls)=Ua at*;obtain ⟨t,ht,rfl⟩:=hS;refine ⟨⟨base++lo "url" (.str u)::t.drop 1,none⟩,congrArg (fun l=>some (bH.ok (),(⟨base++l,none⟩:St))) ht.up1, ?_⟩
  try dsimp only [base,List.cons_append,List.nil_append]
  iterate 2 walk_at "w"
  refine fZ rfl rfl (by decide+kernel) (by walk_at "l") (by walk_at "l") (a:=928) (by kernel_rfl) (by kernel_rfl) ?_;iterate 7 walk_at "w"
  refine ⟨rfl,_,c1, ?_⟩;iterate 3 walk_at "w"
  refine fZ rfl rfl (by decide+kernel) (by walk_at "l") (by walk_at "l") (a:=928) (by kernel_rfl) (by kernel_rfl) ?_;iterate 7 walk_at "w"
  refine ⟨rfl,_,c2, ?_⟩;iterate 4 walk_at "w"
  refine aL rfl (EG rfl (by decide+kernel) (by walk_at "l") s1 (e:=.str u) ?_ ?_)
  ·exact af (by decide+kernel) (by walk_at "l") ⟨rfl,rfl⟩
  refine aL rfl (EG rfl (by decide+kernel) (by walk_at "l") s2 (e:=Ga NZ (.str u)) ?_ ?_)
  ·refine EG rfl (by decide+kernel) (by walk_at "l") s1 (e:=.str u) ?_ ⟨rfl,rfl⟩
   exact af (by decide+kernel) (by walk_at "l") ⟨rfl,rfl⟩
  walk_at "w"
  walk_at "w"
  refine aa (bC (bu (dw (aF rfl (DI rfl (aL rfl (bh rfl rfl rfl (af (by decide+kernel) (by walk_at "l") ⟨774,_,751,rfl,by kernel_rfl,rfl, ?_⟩))))))));iterate 3 walk_at "w"
  refine ⟨rfl,_,c3, ?_⟩;refine aL rfl (bh rfl rfl rfl (af (by decide+kernel) (by walk_at "l") ⟨774,_,758,rfl,by kernel_rfl,rfl, ?_⟩));iterate 3 walk_at "w"
  refine ⟨rfl,_,c4,lN ⟨rfl, ?_⟩⟩;walk_at "w"
  refine ⟨_,fx (eE (ik (k:=0) fun d m=> ?_) (by decide)), ?_⟩
  ·rcases List.mem_cons.mp m with rfl|m
   ·exact xA y1 yu
   ·rw [List.mem_singleton.mp m]
    exact xA y2 (xA y1 yu)
  refine bD rfl ?_;refine dw (aF rfl (bh rfl rfl rfl (af (by decide+kernel) (by walk_at "l") ⟨774,_,744,rfl,by kernel_rfl,rfl, ?_⟩)));iterate 5 walk_at "w"
  refine ⟨rfl,_,c5,rfl, ?_⟩;walk_at "w"
  refine ⟨_,fx (eE y2 (by decide)), ?_⟩;refine bD rfl ?_;walk_at "w"
  refine bD rfl ?_;iterate 2 walk_at "w"
  exact ⟨fun v e=>(nomatch e),_,.inr rfl,rfl⟩
 ·dsimp only [base] at hS
  obtain ⟨t,ht,rfl⟩:=hS
  try dsimp only [List.cons_append,List.nil_append]
  iterate 3 walk_at "w"
  exact ⟨rfl,rfl⟩
structure Rf where
 rem:Str
 word:Str
noncomputable def fi:List Rf:=[⟨"origin","fetch"⟩,⟨"origin","push"⟩,⟨"Mine","fetch"⟩,⟨"none","fetch"⟩]
noncomputable def eA(r:Rf):Str:="remote."++r.rem++"."++r.word
noncomputable def Eo(r:Rf):Ak:=⟨eA r,"remote."++r.rem,r.word,eA r⟩
theorem E4{β:Type}{f g:Rf→β}(e:fi.map f=fi.map g): ∀a:Rf,a∈fi→f a=g a:=fun a m=>List.map_inj_left.mp e a m
theorem HA{β:Type}{f g:Rf→Hd→β}(e:(fi.map fun a=>aX.map (f a))=fi.map fun a=>aX.map (g a)): ∀a:Rf,a∈fi→∀h:Hd,h∈aX→f a h=g a h:=fun a m h mh=>List.map_inj_left.mp (List.map_inj_left.mp e a m) h mh
theorem HB{r:Rf}(h:r∈fi):Eo r∈bP:=by
 have e:fi.map Eo=bP.drop 10:=by kernel_rfl
 exact List.mem_of_mem_drop (i:=10) (by rw [←e];exact List.mem_map_of_mem h)
noncomputable def j0:List D:=[dS "+a:b",dS "c",dS "^d",dS "e/*:f/*"]
theorem gl{β:Type}{f g:D→β}(e:j0.map f=j0.map g): ∀v:D,v∈j0→f v=g v:=fun v m=>List.map_inj_left.mp e v m
noncomputable def Dq(v:D):List (Str×FV):=match run 3 792 [.ptr,.d v] (some (.inst 816 [])) with
 |some (_,some (.inst _ fs))=>fs
 |_=>[]
noncomputable def lA(v:D):D:=.inst 816 ((Dq v).map fun p=>(p.1,gu p.2))
theorem BA{n:Nat}: ∀v:D,v∈j0→run (n+3) 792 [.ptr,.d v] (some (.inst 816 []))=some (.ok .none,some (.inst 816 (Dq v))):=gl (by kernel_rfl)
theorem zk:(fi.all fun r=>aX.all fun h=> !(h.key==eA r)|| (h.iname=="fetch"||h.iname=="push")&& !(h.iname=="flag"||h.iname=="size"))=true:=by kernel_rfl
theorem qB{cs:List Pc}(hc:cY cs){r:Rf}(hr:r∈fi): ∀d∈ar cs (eA r),d∈j0:=fun d m=>by
 obtain ⟨c,mc,rfl⟩:=List.mem_map.mp m;obtain ⟨m1,m2⟩:=List.mem_filter.mp mc;have hw:=hc.2 c m1;have h1:=List.all_eq_true.mp (List.all_eq_true.mp zk r hr) c.r.h hw.1;rw [show (c.r.h.key==eA r)=true from m2] at h1;have h2:=hw.2;simp only [Bool.not_true,Bool.false_or,Bool.and_eq_true,Bool.not_eq_true'] at h1;unfold cq at h2;rw [if_neg (by rw [h1.2];simp),if_pos h1.1] at h2;exact h2
theorem vH{n:Nat}{ls:List (Str×List Pc)}(hc:gO ls)(r:Rf)(hr:r∈fi):run (n+6) 771 [.d (aS ls),.d (.str r.rem),.d (.str r.word)] none=some (.ok (.lst ((ar (ao ls) (eA r)).map lA)),none):=by
 refine bo (F:=⟨bB 54 13,[dS "fetch"]⟩) (by kernel_rfl) rfl (by kernel_rfl) (ρ0:=[("self",.d (aS ls)),("remote",.d (.str r.rem)),("word",.d (.str r.word))]) (by kernel_rfl) (by walk_at "o") ?_
 try dsimp only [ai,ak]
 have hl:=hc.all;have h1:=jC (n:=n) hc (Eo r) (HB hr);change _=some (bH.ok (D.lst (ar (ao ls) (eA r))),none) at h1
 have h2:=qB hl hr;have h3:=il hl (full:=eA r);generalize ar (ao ls) (eA r)=vs at h1 h2 h3 ⊢;refine aa (cC (eU (q:=⟨_,_,_,_,_,_⟩) rfl (jX vs (fun d=>d) (fun _=>true) lA (fun d=>[lo "text" d]) [] (by decide+kernel) (by decide+kernel) rfl ?_)))
 try dsimp only
 refine bh rfl rfl rfl (af (by decide+kernel) (by walk_at "l") ⟨774,_,700,rfl,by kernel_rfl,rfl,aI rfl (c8 (.str (eA r)) (by clear h1 h2 h3;revert r;exact E4 (by kernel_rfl)) (bn ⟨rfl,_,h1, ?_⟩))⟩);refine ⟨by rw [List.map_id'];exact bw (by lia),by lia,by kernel_rfl,rfl,fun x _=>rfl,fun x _ y=>rfl,fun x m=> ?_,fun x m _=> ?_, ?_⟩
 ·have:=h2 x m
  clear h1 h2 h3 m;revert x;exact gl (by kernel_rfl)
 ·refine Dy (kG rfl rfl (by decide+kernel) (by walk_at "l") (by walk_at "l") (a:=816) (by kernel_rfl) (c:=⟨792,[],["text","is_forced","is_negative","source","target","is_pattern"]⟩) (by kernel_rfl) ?_)
  iterate 3 walk_at "w"
  exact ⟨rfl,_,BA x (h2 x m),rfl,rfl⟩
 ·rw [List.filter_eq_self.mpr (fun _ _=>rfl)]
  exact ⟨rfl,rfl⟩
theorem qC{cs:List Pc}(hc:cY cs){full:Str}(h:(aX.all fun h=> !(h.key==full))=true):ar cs full= []:=by
 unfold ar;rw [List.map_eq_nil_iff,List.filter_eq_nil_iff];intro c m;have:=List.all_eq_true.mp h c.r.h (hc.2 c m).1
 simpa using this
structure Br where
 name:Str
 k1:Ak
 k2:Ak
noncomputable def kH:List Br:=[⟨"main",⟨"branch.main.remote","branch.main","remote","branch.main.remote"⟩,⟨"branch.main.merge","branch.main","merge","branch.main.merge"⟩⟩,⟨"x",⟨"branch.x.remote","branch.x","remote","branch.x.remote"⟩,⟨"branch.x.merge","branch.x","merge","branch.x.merge"⟩⟩]
theorem yF{β:Type}{f g:Br→β}(e:kH.map f=kH.map g): ∀a:Br,a∈kH→f a=g a:=fun a m=>List.map_inj_left.mp e a m
theorem DM{b:Br}(h:b∈kH):b.k1∈bP∧b.k2∈bP:=by
 unfold kH at h;simp only [List.mem_cons,List.not_mem_nil,or_false] at h;rcases h with rfl|rfl<;> (unfold bP;simp)
theorem kJ{n:Nat}{ls:List (Str×List Pc)}(hc:gO ls)(b:Br)(hb:b∈kH):run (n+7) 765 [.d (aS ls),.d (.str b.name)] none=some (.ok (.tup [br (ar (ao ls) b.k1.full),br (ar (ao ls) b.k2.full)]),none):=by
 refine bo (F:=⟨bB 54 12,[]⟩) (by kernel_rfl) rfl (by kernel_rfl) (ρ0:=[("self",.d (aS ls)),("name",.d (.str b.name))]) (by kernel_rfl) (by walk_at "o") ?_
 try dsimp only [ai,ak]
 have h1:=ig (n:=n) hc b.k1 (DM hb).1;have h2:=ig (n:=n) hc b.k2 (DM hb).2;generalize br (ar (ao ls) b.k1.full)=g1 at h1 ⊢;generalize br (ar (ao ls) b.k2.full)=g2 at h2 ⊢;iterate 3 walk_at "w"
 refine aL rfl (bh rfl rfl rfl (af (by decide+kernel) (by walk_at "l") ⟨774,_,714,rfl,by kernel_rfl,rfl,aI rfl (c8 (.str b.k1.k) (by clear h1 h2;revert b;exact yF (by kernel_rfl)) (bn ⟨rfl,_,h1, ?_⟩))⟩));refine aL rfl (bh rfl rfl rfl (af (by decide+kernel) (by walk_at "l") ⟨774,_,714,rfl,by kernel_rfl,rfl,aI rfl (c8 (.str b.k2.k) (by clear h1 h2;revert b;exact yF (by kernel_rfl)) (bn ⟨rfl,_,h2, ?_⟩))⟩));exact lN ⟨rfl,rfl⟩
local macro_rules | `(tactic|walk_at "l")=>do `(tactic|((try dsimp only);repeat ($(←wf (Lean.mkIdent `u) "w TS |w Ey |s s |r xl k?|S s |r QW k?|e rfl |e Tl.look ak|e Tl.look0 ak"):tactic)))
local macro_rules | `(tactic|walk_at "u")=>do `(tactic|repeat ($(←wf (Lean.mkIdent `u) "w Qv |p up1 k|e Qv |e Tl.upL arr|e Tl.up ar|e Tl.up1 a|e TA |e rfl "):tactic))
theorem Ey{β:Type}{x:Str}{b:β}{l:List (Str×β)}:(upd l x b).lookup x=some b:=by rw [aN,if_pos (beq_self_eq_true _)]
theorem xl{β:Type}{x y:Str}{b:β}{l:List (Str×β)}{r:Option β}(h:(y==x)=false)(h2:l.lookup y=r):(upd l x b).lookup y=r:=by rw [aN,h];exact h2
theorem gv{ns:ab}{ρ:List (Str×Loc)}:cf ns ρ []=some []:=rfl
theorem bO{ns:ab}{ρ q:List (Str×Loc)}{r:ab}{x:Str}(h:cf ns ρ r=some q):cf ns ρ ((x,.local)::r)=some q:=h
theorem qZ{ns:ab}{ρ q:List (Str×Loc)}{r:ab}{x:Str}(h:cf ns ρ r=some q):cf ns ρ ((x,.globalImplicit)::r)=some q:=h
theorem mA{ns:ab}{ρ q:List (Str×Loc)}{r:ab}{x:Str}{d:D}(hc:gf ns x=true)(hl:ρ.lookup x=some (.d d))(h:cf ns ρ r=some q):cf ns ρ ((x,.free)::r)=some ((x,.d d)::q):=by
 show (if gf ns x then _ else none)=_;rw [hc,hl,h]<;>rfl
theorem yA{fn:au}{k:Nat}{ns:ab}{S:St}{Q:D→St→Prop}{a b:Expr}{p:Pos}(h:WD (ah fn k) ns a S fun d S1=>d= .bool true∧WD (ah fn k) ns b S1 Q):WD (ah fn (k+1)) ns (.BoolOp .And [a,b] p) S Q:=by
 obtain ⟨d,S1,h1,rfl,d2,S2,h2,hQ⟩:=h;refine ⟨d2,S2, ?_,hQ⟩;exact (ad h1).trans h2
theorem Cr{d:D}(h:cX 64 d):gR .Eq d d=some true:=qV h
theorem y9{n:Nat}: ∀h:Hd,h∈aX→run (n+2) 881 [.d (.str h.sec)] none=some (.ok (.str (Txt.lower h.sec)),none):=lO (by kernel_rfl)
theorem tw{n:Nat}: ∀s:Sc,s∈fh→run (n+2) 881 [.d (.str s.s)] none=some (.ok (.str s.low),none):=xS (by kernel_rfl)
noncomputable def CT:D→Bool
 | .none=>true
 | .str _=>true
 |_=>false
theorem FS:(aX.all fun h=>CT h.below)=true:=by kernel_rfl
theorem rQ{h:Hd}(m:h∈aX):h.below= .none∨∃b,h.below= .str b:=by
 have:=List.all_eq_true.mp FS h m
 cases hb:h.below<;>rw [hb] at this<;>first|cases this|skip
 ·exact .inl rfl
 ·exact .inr ⟨_,rfl⟩
structure RI(T R:D)(ρ:List (Str×Loc)):Prop where
 told:ρ.lookup ("told":Str)=some (.d T)
 rows:ρ.lookup ("rows":Str)=some (.d R)
 small:ρ.lookup ("_law_small":Str)=none
 list:ρ.lookup ("list":Str)=none
 tuple:ρ.lookup ("tuple":Str)=none
noncomputable def gm:List Str:=["told","rows","_law_small","list","tuple"]
theorem RI.upd{T R:D}{ρ:List (Str×Loc)}(h:RI T R ρ){x:Str}{b:Loc}(hx:(gm.all fun y=> !(y==x))=true):RI T R (upd ρ x b):=by
 have g: ∀y∈gm,(y==x)=false:=fun y m=>by simpa using List.all_eq_true.mp hx y m
 exact ⟨xl (g _ (by unfold gm;simp)) h.told,xl (g _ (by unfold gm;simp)) h.rows,xl (g _ (by unfold gm;simp)) h.small,xl (g _ (by unfold gm;simp)) h.list,xl (g _ (by unfold gm;simp)) h.tuple⟩
noncomputable def yq(v:D):D:=.tup [.bool (Txt.contains (strOf v) "+"),.bool (Txt.contains (strOf v) "^")]
noncomputable def En(v:D):D:=match lA v with
 | .inst _ fs=>(fs.lookup ("source":Str)).getD .none
 |_=>.none
theorem EW: ∀v:D,v∈j0→Gb (En v)=true:=gl (by kernel_rfl)
noncomputable def cS(w:Str):Str:="branch.main."++w
noncomputable def r9:List Str:=["remote","merge"]
theorem Nz{β:Type}{f g:Str→Hd→β}(e:(r9.map fun a=>aX.map (f a))=r9.map fun a=>aX.map (g a)): ∀a:Str,a∈r9→∀h:Hd,h∈aX→f a h=g a h:=fun a m h mh=>List.map_inj_left.mp (List.map_inj_left.mp e a m) h mh
theorem yi{r:ba}{ns:ab}{ifs:List Expr}{ρ:D→Hd→List (Str×Loc)}{t:Hd→Bool}(h: ∀v,∀h∈aX,nt r ns ifs ⟨ρ v h,none⟩=some (.ok (t h),⟨ρ v h,none⟩)){c:Pc}(m:c.r.h∈aX):nt r ns ifs ⟨ρ c.r.v c.r.h,none⟩=some (.ok (t c.r.h),⟨ρ c.r.v c.r.h,none⟩):=h c.r.v c.r.h m
theorem nw{ls:List (Str×List Pc)}(hc:gO ls):run 9 940 [.d (aS ls),.d (cK (ao ls))] none=some (.ok (.bool true),none):=by
 refine bo (F:=⟨bg 76,[]⟩) (by kernel_rfl) rfl (by kernel_rfl) (ρ0:=[("told",.d (aS ls)),("rows",.d (cK (ao ls)))]) (by kernel_rfl) (by walk_at "t") ?_
 try dsimp only [ai,ak]
 have hl:=hc.all;have aP:=hl.1;have R0:RI (aS ls) (cK (ao ls)) [("told",.d (aS ls)),("rows",.d (cK (ao ls)))]:=⟨rfl,rfl,rfl,rfl,rfl⟩;revert R0;generalize ([("told",.d (aS ls)),("rows",.d (cK (ao ls)))]:List (Str×Loc))=ρ0;intro R0;refine aa (fM rfl (c8 (.tup (fh.map fun a=>.str a.s)) (by kernel_rfl) ⟨_,rfl,by decide+kernel, ?_⟩));refine fk (fun a:Sc=>.str a.s) (fun _ S=>∃ρ,S= ⟨ρ,none⟩∧RI (aS ls) (cK (ao ls)) ρ) fh (fun pre s post e S hS=> ?_) ⟨_,rfl,R0⟩ (fun S hS=> ?_)
 ·have hs:s∈fh:=by rw [e];simp
  clear e;obtain ⟨ρ,rfl,R⟩:=hS;clear R0;refine ⟨⟨upd ρ "section" (.d (.str s.s)),none⟩,rfl, ?_⟩;have c0:run 8 737 [.d (aS ls),.d (.str s.s)] none=some (.ok (.lst ((ci s (ao ls)).map .str)),none):=vG (n:=4) hc s hs;have c1:=tw (n:=6) s hs;have R1:=R.told;have R2:=R.rows;have R3:=R.small;have R4:=R.list;iterate 2 walk_at "w"
  refine aa (fM rfl ?_);refine af (by decide+kernel) (by walk_at "l") ⟨_,bw (by rw [List.length_map];lia),by rw [List.length_map];lia, ?_⟩;refine fk (fun c:Pc=>dn c.r) (fun pre S=>∃ρ,S= ⟨ρ,none⟩∧RI (aS ls) (cK (ao ls)) ρ∧ρ.lookup ("section":Str)=some (.d (.str s.s))∧ρ.lookup ("own":Str)=some (.own ((ci s pre).map .str))) (ao ls) (fun pre c post e S hS=> ?_) ⟨_,rfl,(R.upd (by decide+kernel)).upd (by decide+kernel),by walk_at "l",Ey⟩ (fun S hS=> ?_)
  ·have hr:=hl.2 c (by rw [e];simp)
   obtain ⟨g1,g2⟩:=pb hs pre (fun x m=>hl.2 x (by rw [e];exact List.mem_append_left _ m)) [] (fun x m=>nomatch m);have pX:pre.length≤100:=by rw [e,List.length_append] at aP;lia
   have aP:(ci s pre).length≤100:=by unfold ci;have:([]:List Str).length=0:=rfl;lia
   have hb: ∀b,jj s c.r.h=some b→(PyData.str b).canLay0=true:=fun b e=>by
    have:=List.all_eq_true.mp (List.all_eq_true.mp sD s hs) c.r.h hr.1;rw [e] at this;exact this
   have dJ:ci s (pre++ [c])=co s (ci s pre) c:=by unfold ci;rw [List.foldl_append];rfl
   have xf: ∀x∈ci s pre,(PyData.str x).canLay0=true:=g1;have c2:=y9 (n:=6) c.r.h hr.1;have Nc:=rQ hr.1;clear R1 R2 R3 R4 R;obtain ⟨ρ,rfl,R,q1,q2⟩:=hS;rw [dJ];generalize ci s pre=cU at aP xf q2 ⊢;clear dJ g1 g2 e;have R3:=R.small;refine ⟨⟨upd (upd (upd (upd ρ "near" (.d (.str c.r.h.sec))) "below" (.d c.r.h.below)) "word" (.d (.str c.r.h.word))) "value" (.d c.r.v),none⟩,rfl, ?_⟩;have RR:RI (aS ls) (cK (ao ls)) (upd (upd (upd (upd ρ "near" (.d (.str c.r.h.sec))) "below" (.d c.r.h.below)) "word" (.d (.str c.r.h.word))) "value" (.d c.r.v)):=(((R.upd (by decide+kernel)).upd (by decide+kernel)).upd (by decide+kernel)).upd (by decide+kernel);refine aa (bC (bu (bj (aF rfl (fZ rfl rfl (by decide+kernel) (by walk_at "l") (by walk_at "l") (a:=881) (by kernel_rfl) (by kernel_rfl) ?_)))));iterate 3 walk_at "w"
   refine ⟨rfl,_,c2,rfl,fZ rfl rfl (by decide+kernel) (by walk_at "l") (by walk_at "l") (a:=881) (by kernel_rfl) (by kernel_rfl) ?_⟩;iterate 3 walk_at "w"
   refine ⟨rfl,_,c1,_,rfl, ?_⟩;unfold co jj;unfold jj at hb
   cases h1:Txt.lower c.r.h.sec==s.low with
   |false=>
    have hn:(match c.r.h.below with|D.str b=>if (Txt.lower c.r.h.sec==s.low)=true then some b else none|_=>none)=none:=by rw [h1];rcases Nc with q|⟨b,q⟩<;>rw [q]<;>rfl
    refine bD rfl ?_;iterate 2 walk_at "w"
    refine ⟨fun v e=>(nomatch e),_,rfl,RR,by walk_at "l", ?_⟩;rcases Nc with q|⟨b,q⟩<;>rw [q]<;> (try simp only [Bool.false_eq_true,if_false])<;>walk_at "l"
   |true=>
    refine eC rfl ?_;rw [h1] at hb;refine bj (aF rfl (af (by decide+kernel) (by walk_at "l") ⟨rfl,aj rfl ?_⟩));rcases Nc with q|⟨b,q⟩
    ·rw [q]
     refine ⟨false,rfl, ?_⟩;refine bD rfl ?_;iterate 2 walk_at "w"
     refine ⟨fun v e=>(nomatch e),_,rfl, ?_,by walk_at "l",by walk_at "l"⟩;rw [q] at RR;exact RR
    ·rw [q] at hb RR ⊢
     refine ⟨true,rfl, ?_⟩;simp only [if_true];have Ed:=hb b rfl;refine bj (yJ rfl (af (by decide+kernel) (by walk_at "l") ⟨cU.map .str,true,_, ?_,uZ Ed xf, ?_⟩))
     ·exact BQ rfl (by decide+kernel) (by walk_at "l") (by walk_at "l")
     cases h3:cU.any (· ==b) with
     |true=>
      simp only [if_true,Bool.not_true,Bool.false_eq_true,if_false];iterate 2 walk_at "w"
      exact ⟨fun v e=>(nomatch e),_,rfl,RR,by walk_at "l",by walk_at "l"⟩
     |false=>
      simp only [if_true,Bool.not_false,Bool.false_eq_true,if_false];refine dB ?_;simp only [if_true];refine aa (jk rfl rfl (by walk_at "l") rfl (by walk_at "l") (af (by decide+kernel) (by walk_at "l") ⟨_,_,by walk_at "l",by rw [List.length_map];lia,rfl, ?_⟩));iterate 2 walk_at "w"
      refine ⟨fun v e=>(nomatch e),_,rfl,RR.upd (by decide+kernel),by walk_at "l", ?_⟩;rw [List.map_append];exact Ey
  ·obtain ⟨g1,g2⟩:=pb hs (ao ls) hl.2 [] (fun x m=>nomatch m)
   have KY:(ci s (ao ls)).length≤100:=by unfold ci;have:([]:List Str).length=0:=rfl;lia
   have xf: ∀x∈ci s (ao ls),(PyData.str x).canLay0=true:=g1;clear g1 g2 R1 R2 R3 R4 R;obtain ⟨ρ,rfl,R,q1,q2⟩:=hS;generalize ci s (ao ls)=cU at KY xf q2 c0;have R1:=R.told;have R4:=R.list;refine aa (bC (aF rfl (nS rfl rfl (by decide+kernel) (by walk_at "l") (by walk_at "l") (id:="list") (by kernel_rfl) ?_)));refine aI rfl (bh rfl rfl rfl (af (by decide+kernel) (by walk_at "l") ⟨774,_,737,rfl,by kernel_rfl,rfl, ?_⟩));iterate 3 walk_at "w"
   refine ⟨rfl,_,c0, ?_⟩;walk_at "w"
   refine ⟨_,_,rfl,qr (by rw [List.length_map];lia),rfl,nT (by decide+kernel) (by walk_at "l") (by walk_at "l") rfl ?_⟩;refine ⟨_,fx (eE (ik (k:=0) fun d m=> ?_) (by decide)), ?_⟩
   ·obtain ⟨x,mx,rfl⟩:=List.mem_map.mp m
    exact ⟨.str x,rfl,xf x mx,Nat.le_refl _⟩
   refine bD rfl ?_;iterate 2 walk_at "w"
   exact ⟨fun v e=>(nomatch e),_,rfl,R.upd (by decide+kernel)⟩
 clear R0;obtain ⟨ρ1,rfl,R0⟩:=hS
 try dsimp only
 refine aa (fM rfl (c8 (.tup (fi.map fun a=>.tup [.str a.rem,.str a.word])) (by kernel_rfl) ⟨_,rfl,by decide+kernel, ?_⟩));refine fk (fun a:Rf=>.tup [.str a.rem,.str a.word]) (fun _ S=>∃ρ,S= ⟨ρ,none⟩∧RI (aS ls) (cK (ao ls)) ρ) fi (fun pre s post e S hS=> ?_) ⟨_,rfl,R0⟩ (fun S hS=> ?_)
 ·have hs:s∈fi:=by rw [e];simp
  clear e;obtain ⟨ρ,rfl,R⟩:=hS;clear R0;have R1:=R.told;have R2:=R.rows;have c0:run 8 771 [.d (aS ls),.d (.str s.rem),.d (.str s.word)] none=_:=vH (n:=2) hc s hs;have h2:=qB hl hs;have h3:=il hl (full:=eA s);refine ⟨⟨upd (upd ρ "remote" (.d (.str s.rem))) "word" (.d (.str s.word)),none⟩,rfl, ?_⟩;refine aa (oK (q:=⟨_,_,_,_,_,_⟩) rfl rfl (by decide+kernel) (jX (ao ls) (fun c=>dn c.r) (fun c=>c.r.h.key==eA s) (fun c=>c.r.v) (fun c=>[lo "remote" (.str s.rem),lo "word" (.str s.word),lo "near" (.str c.r.h.sec),lo "below" c.r.h.below,lo "one" (.str c.r.h.word),lo "value" c.r.v]) [lo "remote" (.str s.rem),lo "word" (.str s.word)] (by decide+kernel) (by decide+kernel) rfl ?_))
  try dsimp only
  refine af (by decide+kernel) (by walk_at "l") ⟨bw (by rw [List.length_map];lia),by lia, ?_,rfl,fun x _=>rfl,fun x _ y=>rfl,fun c m=> ?_,fun x m _=>rfl, ?_⟩
  ·exact bO (bO (bO (bO (bO (mA (by decide+kernel) (by walk_at "l") (mA (by decide+kernel) (by walk_at "l") gv))))))
  ·refine yi (ρ:=fun v h=>[lo "remote" (.str s.rem),lo "word" (.str s.word),lo "near" (.str h.sec),lo "below" h.below,lo "one" (.str h.word),lo "value" v]) (t:=fun h=>h.key==eA s) (fun v=> ?_) (hl.2 c m).1
   clear h2 h3 c0;revert s;exact HA (by kernel_rfl)
  refine ⟨_,rfl, ?_⟩
  try dsimp only
  rw [show List.map (fun c:Pc=>c.r.v) (List.filter (fun c=>c.r.h.key==eA s) (ao ls))=ar (ao ls) (eA s) from rfl];generalize ar (ao ls) (eA s)=vs at h2 h3 c0 ⊢;iterate 2 walk_at "w"
  refine bh rfl rfl rfl (af (by decide+kernel) (by walk_at "l") ⟨774,_,771,rfl,by kernel_rfl,rfl, ?_⟩);iterate 5 walk_at "w"
  refine ⟨rfl,_,c0, ?_⟩;refine ⟨_,rfl, ?_⟩;have e1:List.filter (fun _:D=>true) vs=vs:=List.filter_eq_self.mpr (fun _ _=>rfl);refine aa (bC (aF rfl (eU (q:=⟨_,_,_,_,_,_⟩) rfl (jX vs lA (fun _=>true) yq (fun v=>[lo "one" (lA v)]) [] (by decide+kernel) (by decide+kernel) rfl (af (by decide+kernel) (by walk_at "l") ⟨bw (by rw [List.length_map];lia),by lia, ?_,rfl,fun x _=>rfl,fun x _ y=>rfl,fun x m=>rfl,fun x m _=> ?_, ?_⟩)))))
  ·exact bO (bO gv)
  ·have:=h2 x m
   clear h2 m e1 c0;revert x;exact gl (by kernel_rfl)
  refine ⟨rfl,eU (q:=⟨_,_,_,_,_,_⟩) rfl (jX vs (fun d=>d) (fun _=>true) yq (fun v=>[lo "value" v]) [] (by decide+kernel) (by decide+kernel) rfl (af (by decide+kernel) (by walk_at "l") ⟨by rw [List.map_id'];exact bw (by lia),by lia, ?_,rfl,fun x _=>rfl,fun x _ y=>rfl,fun x m=>rfl,fun x m _=> ?_, ?_⟩))⟩
  ·exact bO (bO gv)
  ·have:=h2 x m
   clear h2 m e1 c0;revert x;exact gl (by kernel_rfl)
  rw [e1];refine ⟨_,fx (eE (ik (k:=1) fun d m=> ?_) (by decide)), ?_⟩
  ·obtain ⟨x,mx,rfl⟩:=List.mem_map.mp m
   refine qy (k:=0) fun d m=> ?_;rcases List.mem_cons.mp m with rfl|m
   ·exact ⟨.bool _,rfl,rfl,Nat.le_refl _⟩
   ·rw [List.mem_singleton.mp m];exact ⟨.bool _,rfl,rfl,Nat.le_refl _⟩
  refine bD rfl ?_;walk_at "w"
  refine aa (bC (aF rfl (eU (q:=⟨_,_,_,_,_,_⟩) rfl (jX vs lA (fun _=>true) En (fun v=>[lo "one" (lA v)]) [] (by decide+kernel) (by decide+kernel) rfl (af (by decide+kernel) (by walk_at "l") ⟨bw (by rw [List.length_map];lia),by lia, ?_,rfl,fun x _=>rfl,fun x _ y=>rfl,fun x m=>rfl,fun x m _=> ?_, ?_⟩)))))
  ·exact bO (bO gv)
  ·have:=h2 x m
   clear h2 m e1 c0;revert x;exact gl (by kernel_rfl)
  refine ⟨rfl,eU (q:=⟨_,_,_,_,_,_⟩) rfl (jX vs (fun d=>d) (fun _=>true) En (fun v=>[lo "value" v]) [] (by decide+kernel) (by decide+kernel) rfl (af (by decide+kernel) (by walk_at "l") ⟨by rw [List.map_id'];exact bw (by lia),by lia, ?_,rfl,fun x _=>rfl,fun x _ y=>rfl,fun x m=>rfl,fun x m _=> ?_, ?_⟩))⟩
  ·exact bO (bO gv)
  ·have:=h2 x m
   clear h2 m e1 c0;revert x;exact gl (by kernel_rfl)
  rw [e1];refine ⟨_,fx (eE (ik (k:=0) fun d m=> ?_) (by decide)), ?_⟩
  ·obtain ⟨x,mx,rfl⟩:=List.mem_map.mp m
   exact oR (EW x (h2 x mx))
  refine bD rfl ?_;iterate 2 walk_at "w"
  exact ⟨fun v e=>(nomatch e),_,rfl,(((R.upd (by decide+kernel)).upd (by decide+kernel)).upd (by decide+kernel)).upd (by decide+kernel)⟩
 clear R0;obtain ⟨ρ2,rfl,R0⟩:=hS;iterate 2 walk_at "w"
 refine aa (fM rfl (c8 (.tup (r9.map fun a=>.str a)) (by kernel_rfl) ⟨_,rfl,by decide+kernel, ?_⟩));refine fk (fun a:Str=>.str a) (fun pre S=>∃ρ,S= ⟨ρ,none⟩∧RI (aS ls) (cK (ao ls)) ρ∧ρ.lookup ("pair":Str)=some (.own (pre.map fun w=>br (ar (ao ls) (cS w))))) r9 (fun pre w post e S hS=> ?_) ⟨_,rfl,R0.upd (by decide+kernel),Ey⟩ (fun S hS=> ?_)
 ·have hw:w∈r9:=by rw [e];simp
  have D8:pre.length≤2:=by have:=congrArg List.length e;rw [List.length_append,show r9.length=2 from rfl] at this;lia
  clear e;obtain ⟨ρ,rfl,R,q1⟩:=hS;clear R0;have R2:=R.rows;have xe:=jr hl (full:=cS w);have h3:=il hl (full:=cS w);refine ⟨⟨upd ρ "word" (.d (.str w)),none⟩,rfl, ?_⟩;refine aa (oK (q:=⟨_,_,_,_,_,_⟩) rfl rfl (by decide+kernel) (jX (ao ls) (fun c=>dn c.r) (fun c=>c.r.h.key==cS w) (fun c=>c.r.v) (fun c=>[lo "word" (.str w),lo "near" (.str c.r.h.sec),lo "below" c.r.h.below,lo "one" (.str c.r.h.word),lo "value" c.r.v]) [lo "word" (.str w)] (by decide+kernel) (by decide+kernel) rfl ?_))
  try dsimp only
  refine af (by decide+kernel) (by walk_at "l") ⟨bw (by rw [List.length_map];lia),by lia, ?_,rfl,fun x _=>rfl,fun x _ y=>rfl,fun c m=> ?_,fun x m _=>rfl, ?_⟩
  ·exact bO (bO (bO (bO (bO (mA (by decide+kernel) (by walk_at "l") gv)))))
  ·refine yi (ρ:=fun v h=>[lo "word" (.str w),lo "near" (.str h.sec),lo "below" h.below,lo "one" (.str h.word),lo "value" v]) (t:=fun h=>h.key==cS w) (fun v=> ?_) (hl.2 c m).1
   clear h3 xe q1;revert w;exact Nz (by kernel_rfl)
  refine ⟨_,rfl, ?_⟩
  try dsimp only
  rw [show List.map (fun c:Pc=>c.r.v) (List.filter (fun c=>c.r.h.key==cS w) (ao ls))=ar (ao ls) (cS w) from rfl,List.map_append,List.map_cons,List.map_nil];have N8:(pre.map fun w=>br (ar (ao ls) (cS w))).length≤2:=by rw [List.length_map];exact D8
  generalize (pre.map fun w=>br (ar (ao ls) (cS w)))=cU at q1 N8 ⊢;generalize ar (ao ls) (cS w)=vs at xe h3 ⊢;refine aa (jk rfl rfl (by walk_at "l") rfl (by walk_at "l") (xu (g:=br vs) ?_ ⟨_,_,by walk_at "l",by lia,rfl, ?_⟩))
  ·refine Bc ?_
   iterate 2 walk_at "w"
   refine ⟨rfl, ?_⟩;iterate 2 walk_at "w"
   refine ⟨_,hB xe, ?_⟩
   cases he:vs.isEmpty with
   |true=>
    refine bD rfl ?_;walk_at "w"
    rw [List.isEmpty_iff.mp he];exact ⟨rfl,rfl⟩
   |false=>
    refine eC rfl ?_;refine ft rfl ?_;walk_at "w"
    exact c8 (.int (-1)) (by kernel_rfl) ⟨_,_,rfl,jL (fun e=>by rw [e] at he;cases he) (by lia),rfl,rfl⟩
  walk_at "w"
  exact ⟨fun v e=>(nomatch e),_,rfl,((R.upd (by decide+kernel)).upd (by decide+kernel)).upd (by decide+kernel),by walk_at "l"⟩
 clear R0;obtain ⟨ρ3,rfl,R,q1⟩:=hS;have R1:=R.told;have R5:=R.tuple;have c1:run 8 765 [.d (aS ls),.d (.str ("main":Str))] none=some (.ok (.tup [br (ar (ao ls) (cS "remote")),br (ar (ao ls) (cS "merge"))]),none):=kJ (n:=1) hc ⟨"main",⟨"branch.main.remote","branch.main","remote","branch.main.remote"⟩,⟨"branch.main.merge","branch.main","merge","branch.main.merge"⟩⟩ (by unfold kH;simp);have c2:=kJ (n:=1) hc ⟨"x",⟨"branch.x.remote","branch.x","remote","branch.x.remote"⟩,⟨"branch.x.merge","branch.x","merge","branch.x.merge"⟩⟩ (by unfold kH;simp);dsimp only at c2;rw [qC hl (full:="branch.x.remote") (by kernel_rfl),qC hl (full:="branch.x.merge") (by kernel_rfl)] at c2;have y1:=po hl (full:=cS "remote");have y2:=po hl (full:=cS "merge");change ρ3.lookup ("pair":Str)=some (.own [br (ar (ao ls) (cS "remote")),br (ar (ao ls) (cS "merge"))]) at q1
 generalize br (ar (ao ls) (cS "remote"))=g1 at*;generalize br (ar (ao ls) (cS "merge"))=g2 at*;refine aa (cC (yA (xJ rfl (nS rfl rfl (by decide+kernel) (by walk_at "l") (by walk_at "l") (id:="tuple") (by kernel_rfl) ?_))));refine aI rfl (bh rfl rfl rfl (af (by decide+kernel) (by walk_at "l") ⟨774,_,765,rfl,by kernel_rfl,rfl, ?_⟩));iterate 3 walk_at "w"
 refine ⟨rfl,_,c1, ?_⟩;walk_at "w"
 refine ⟨_,_,rfl,rfl,rfl,nS rfl rfl (by decide+kernel) (by walk_at "l") (by walk_at "l") (id:="tuple") (by kernel_rfl) ?_⟩;refine aI rfl (nT (by decide+kernel) (by walk_at "l") (by walk_at "l") rfl (bn ⟨_,_,rfl,rfl, ?_⟩));refine ⟨_,Cr (eE (qy (k:=0) fun d m=> ?_) (by decide)),rfl, ?_⟩
 ·rcases List.mem_cons.mp m with rfl|m
  ·exact y1
  ·rw [List.mem_singleton.mp m];exact y2
 refine xJ rfl (nS rfl rfl (by decide+kernel) (by walk_at "l") (by walk_at "l") (id:="tuple") (by kernel_rfl) ?_);refine aI rfl (bh rfl rfl rfl (af (by decide+kernel) (by walk_at "l") ⟨774,_,765,rfl,by kernel_rfl,rfl, ?_⟩));iterate 3 walk_at "w"
 refine ⟨rfl,_,c2, ?_⟩;walk_at "w"
 refine ⟨_,_,rfl,rfl,rfl, ?_⟩;iterate 6 walk_at "w"
 exact ⟨true,by kernel_rfl,rfl,rfl⟩
section
variable{fn:au}{k:Nat}{ns:ab}{S:St}{Q:D→St→Prop}{QB:Bool→St→Prop}{QX:Fl→St→Prop}
theorem xY{x:Str}{xp:Pos}(hn:(x== ("__debug__":Str))=false)(h1:S.ρ.lookup x=some .ptr):(ah fn (k+1)).ev ns (.Name x xp) S=some (.ok .ptr,S):=by
 rw [ed hn];unfold fI;rw [h1]<;>rfl
theorem nX{f:Str}{c:Addr}{fs:List (Str×FV)}{y:FV}(h2:S.σ=some (.inst c fs))(h3:attrOk c f=true)(h4:fs.lookup f=some y):lX f S=Qa c fs f S y:=by
 unfold lX;rw [h2];refine (if_pos h3).trans ?_;show (fs.lookup f).bind _=_;rw [h4]<;>rfl
theorem pz{x f:Str}{xp p:Pos}{c:Addr}{fs:List (Str×FV)}{d:D}(hn:(x== ("__debug__":Str))=false)(h1:S.ρ.lookup x=some .ptr)(h2:S.σ=some (.inst c fs))(h3:attrOk c f=true)(h4:fs.lookup f=some (.d d))(h5:D2 d=true)(hQ:Q d S):WD (ah fn (k+2)) ns (.Attribute (.Name x xp) f p) S Q:=by
 refine ⟨d,S, ?_,hQ⟩;show Ev.bind ((ah fn (k+1)).ev ns (.Name x xp)) _ S=_;rw [ad (xY hn h1)];exact (nX h2 h3 h4).trans (if_pos h5)
theorem Cv{x f:Str}{xp p:Pos}{c:Addr}{fs fs':List (Str×FV)}{l:List D}(hn:(x== ("__debug__":Str))=false)(h1:S.ρ.lookup x=some .ptr)(h2:S.σ=some (.inst c fs))(h3:attrOk c f=true)(h4:fs.lookup f=some (.own l))(h5:upd fs f (.d (.lst l))=fs')(hQ:Q (.lst l) ⟨S.ρ,some (.inst c fs')⟩):WD (ah fn (k+2)) ns (.Attribute (.Name x xp) f p) S Q:=by
 refine ⟨.lst l,_, ?_,hQ⟩;show Ev.bind ((ah fn (k+1)).ev ns (.Name x xp)) _ S=_;rw [ad (xY hn h1)];exact (nX h2 h3 h4).trans (by rw [←h5]<;>rfl)
theorem set_slot{f:Str}{y:FV}{c:Addr}{fs fs':List (Str×FV)}(h2:S.σ=some (.inst c fs))(h3:(attrOk c f&&decide (fs.length≤50)&&j8 fs f y)=true)(h4:upd fs f y=fs'):gj f y S=some (.ok (),⟨S.ρ,some (.inst c fs')⟩):=by
 unfold gj;rw [h2, ←h4];exact if_pos h3
theorem l6{x:Str}(hn:(x== ("__debug__":Str))=false)(h1:S.ρ.lookup x=some .ptr):dH S x=true:=by
 unfold dH;rw [h1,hn]<;>rfl
inductive Td(x f:Str)(QX:Fl→St→Prop)(d:D)(S:St):Prop where
 |mk (c:Addr) (fs fs':List (Str×FV)) (h1:S.ρ.lookup x=some .ptr) (h2:S.σ=some (.inst c fs)) (h3:(attrOk c f&&decide (fs.length≤50)&&j8 fs f (.d d))=true) (h4:upd fs f (.d d)=fs') (hQ:QX .next ⟨S.ρ,some (.inst c fs')⟩)
theorem sH{x f:Str}{v:Expr}{xp tp p:Pos}(hn:(x== ("__debug__":Str))=false)(h1:cm v=false)
  (h:WD (ah fn k) ns v S (Td x f QX)):WS (ah fn (k+1)) ns (.Assign [.Attribute (.Name x xp) f tp] v p) S QX:=by
 obtain ⟨d,S1,h2,c,fs,fs',h3,h4,h5,h6,hQ⟩:=h;refine ⟨.next,_, ?_,hQ⟩;show lP (ah fn k) ns x f v S=_;unfold lP;rw [h1];refine (if_neg Bool.false_ne_true).trans ((ad (bJ h2)).trans ?_);exact (if_pos (l6 hn h3)).trans ((ad (set_slot h4 h5 h6)).trans rfl)
theorem Gj{x f:Str}{v:Expr}{xp tp p:Pos}{c:Addr}{fs fs':List (Str×FV)}(hn:(x== ("__debug__":Str))=false)(h1:cm v=true)(h3:S.ρ.lookup x=some .ptr)(h4:S.σ=some (.inst c fs))(h5:(attrOk c f&&decide (fs.length≤50)&&j8 fs f (.own []))=true)(h6:upd fs f (.own [])=fs')
  (hQ:QX .next ⟨S.ρ,some (.inst c fs')⟩):WS (ah fn (k+1)) ns (.Assign [.Attribute (.Name x xp) f tp] v p) S QX:=by
 refine ⟨.next,_, ?_,hQ⟩;show lP (ah fn k) ns x f v S=_;unfold lP;rw [h1];refine (if_pos rfl).trans ?_;exact (if_pos (l6 hn h3)).trans ((ad (set_slot h4 h5 h6)).trans rfl)
theorem oL{e:Expr}{p:Pos}(ho:ownCall e=none)(hs:jE e=none)(hm:l9 e=true)(h:WD (ah fn k) ns e S fun _ S1=>QX .next S1):WS (ah fn (k+1)) ns (.Expr e p) S QX:=by
 obtain ⟨d,S1,h1,hQ⟩:=h;refine ⟨.next,S1, ?_,hQ⟩;show hJ (ah fn k) ns e S=_;unfold hJ;rw [ho,hs];exact (if_pos hm).trans ((ad h1).trans rfl)
theorem BF{e:Expr}{p:Pos}{q:le}(ho:ownCall e=some q)(h1:gH S q.x=none)(h:WD (ah fn k) ns e S fun _ S1=>QX .next S1):WS (ah fn (k+1)) ns (.Expr e p) S QX:=by
 obtain ⟨d,S1,h2,hQ⟩:=h;refine ⟨.next,S1, ?_,hQ⟩;show hJ (ah fn k) ns e S=_;unfold hJ;rw [ho];show (gH S q.x).elim _ _=_;rw [h1];exact (ad h2).trans rfl
theorem E2{e:Expr}{p:Pos}{x f y:Str}{c:Addr}{fs fs':List (Str×FV)}{d:D}{l:List D}(ho:ownCall e=none)(hs:jE e=some ⟨x,f,"append",y,true⟩)(hn:(x== ("__debug__":Str))=false)(hm:(y== ("__debug__":Str))=false)(h1:S.ρ.lookup x=some .ptr)(h2:S.ρ.lookup y=some (.d d))(h3:S.σ=some (.inst c fs))(h4:attrOk c f=true)(h5:fs.lookup f=some (.own l))(h6:l.length≤1000000)
  (h7:upd fs f (.own (l++ [d]))=fs') (hQ:QX .next ⟨S.ρ,some (.inst c fs')⟩):WS (ah fn (k+1)) ns (.Expr e p) S QX:=by
 refine ⟨.next,_, ?_,hQ⟩;show hJ (ah fn k) ns e S=_;unfold hJ;rw [ho,hs];refine (if_pos (by rw [hn,hm];rfl)).trans ((if_pos (l6 hn h1)).trans ?_);rw [h2,h3, ←h7];refine (if_pos h4).trans ?_;show (fs.lookup f).bind _=_;rw [h5];exact if_pos h6
inductive WW(r:ba)(ns:ab)(t:Expr)(body:List Stmt)(n:Nat)(S:St)(Q:Fl→St→Prop):Prop where
 |mk (f:Fl) (S':St) (h:eJ r ns t body n S=some (.ok f,S')) (hQ:Q f S')
noncomputable abbrev KW(r:ba)(ns:ab)(t:Expr)(body:List Stmt)(n:Nat)(QX:Fl→St→Prop)(f:Fl)(S:St):Prop:=match f with| .ret v=>QX (.ret v) S|_=>WW r ns t body n S QX
theorem iC{t:Expr}{body:List Stmt}{p:Pos}(h:WW (ah fn k) ns t body df S QX):WS (ah fn (k+1)) ns (.While t body [] p) S QX:=by
 obtain ⟨f,S',h1,hQ⟩:=h;refine ⟨f,S', ?_,hQ⟩;show quiet (eJ (ah fn k) ns t body df) S=_;exact ij h1
theorem gC{r:ba}{t:Expr}{body:List Stmt}{n:Nat}(h:WB r ns t S fun b S1=>if b=true then WX r ns body S1 (KW r ns t body n QX) else QX .next S1):WW r ns t body (n+1) S QX:=by
 obtain ⟨b,S1,h1,h2⟩:=h
 cases b with
 |false=>exact ⟨.next,S1,(ad h1).trans rfl,h2⟩
 |true=>
  obtain ⟨f,S2,h3,h4⟩:=h2
  cases f with
  |ret v=>exact ⟨_,S2,(ad h1).trans ((ad h3).trans rfl),h4⟩
  |next=>
   obtain ⟨g,S3,h5,hQ⟩:=h4;exact ⟨g,S3,(ad h1).trans ((ad h3).trans h5),hQ⟩
  |cont=>
   obtain ⟨g,S3,h5,hQ⟩:=h4;exact ⟨g,S3,(ad h1).trans ((ad h3).trans h5),hQ⟩
theorem lF{ι:Type}{r:ba}{t:Expr}{body:List Stmt}(rel:List ι→List ι→St→Prop)(xs:List ι)(aP:xs.length≤1000)(h0:rel [] xs S)(h: ∀pre x post S,xs=pre++x::post→rel pre (x::post) S→WB r ns t S fun b S1=>b=true∧WX r ns body S1 fun f S2=>(∀v,f≠ .ret v)∧rel (pre++ [x]) post S2)
  (hQ: ∀m S',rel xs [] S'→WW r ns t body (m+1) S' QX):WW r ns t body df S QX:=by
 have key: ∀(post pre:List ι),xs=pre++post→∀m S,rel pre post S→WW r ns t body (post.length+ (m+1)) S QX:=by
  intro post
  induction post with
  |nil=>intro pre e m S hS;rw [List.append_nil] at e;rw [List.length_nil,Nat.zero_add];exact hQ m S (e▸hS)
  |cons x rest ih=>
   intro pre e m S hS;obtain ⟨b,S1,h1,rfl,f,S2,h2,h3,h4⟩:=h pre x rest S e hS;rw [List.length_cons,Nat.add_right_comm];refine gC ⟨true,S1,h1, ?_⟩;refine eC rfl ?_;refine ⟨f,S2,h2, ?_⟩;have:=ih (pre++ [x]) (by rw [e,List.append_assoc];rfl) m S2 h4
   cases f with
   |ret v=>exact absurd rfl (h3 v)
   |next=>exact this
   |cont=>exact this
 have e:df=xs.length+ ((99999 - xs.length)+1):=(congrArg (· +1) (Nat.add_sub_of_le (Nat.le_trans aP (by decide:1000≤99999)))).symm;rw [e];exact key xs [] rfl _ S h0
theorem eq_int{a b:Int}:gR .Eq (.int a) (.int b)=some (a==b):=rfl
theorem ne_int{a b:Int}:gR .NotEq (.int a) (.int b)=some (!(a==b)):=rfl
theorem FN{g:Str}{q p a' p':Pos}{arg:Expr}{m:Str}(hh:cM ns (.Call (.Attribute (.Call (.Name g q) [arg] [] p) m a') [] [] p') S=none)(hb:(decide (([]:List Expr).length≤8)&&cF (.Attribute (.Call (.Name g q) [arg] [] p) m a') p'&& ([]:List Expr).all aE)=true){C:Addr}{c:ClsRec}(hc:qf ns g S=some (C,c))(ha:aE arg=true){f:Addr}(hf:c.meths.lookup m=some f)
  (h:WD (ah fn k) ns arg S fun d S1=>∃fs v o,fn c.init [.ptr,.d d] (some (.inst C []))=some (.ok .none,some (.inst C fs))∧fs.lookup m=none∧fn f [.ptr] (some (.inst C fs))=some (.ok v,some o)∧Q v S1):WD (ah fn (k+1)) ns (.Call (.Attribute (.Call (.Name g q) [arg] [] p) m a') [] [] p') S Q:=by
 obtain ⟨d,S1,h1,fs,v,o,h2,h3,h4,hQ⟩:=h;refine ⟨v,S1, ?_,hQ⟩;rw [jy hh hb];show (sC ns (.Call (.Name g q) [arg] [] p) S).elim _ (fun t=>if ([]:List Expr).isEmpty&&aE t.2 then Ev.bind (fe (ah fn k) ns t.2) (fun d=>jD fn t.1.1 t.1.2 d m) S else none)=_;have ht:sC ns (.Call (.Name g q) [arg] [] p) S=some ((C,c),arg):=by
  show (qf ns g S).map _=_;rw [hc]<;>rfl
 rw [ht];refine (if_pos (by rw [ha];rfl)).trans ((ad (bJ h1)).trans ?_);unfold jD;rw [hf];show (fn c.init [.ptr,.d d] (some (.inst C []))).bind _=_;rw [h2];show (iZ C _).bind _=_;rw [show iZ C (.ok .none,some (.inst C fs))=some fs from if_pos ⟨rfl,rfl⟩];refine (if_pos (by rw [h3];rfl)).trans ?_;rw [h4]<;>rfl
end
local macro_rules | `(tactic|walk_at "l")=>do `(tactic|((try dsimp only);repeat ($(←wf (Lean.mkIdent `u) "w TS |w Ey |s t |r xl k?|r QW k?|e rfl |e Tl.look ak|e Tl.look0 ak"):tactic)))
noncomputable def AF(O:List UInt8)(i r:Nat)(l:List D):List (Str×FV):=[("octets",.d (.bytes O)),("at",.d (.int i)),("row",.d (.int r)),("pieces",.own l)]
noncomputable def iQ(O:List UInt8)(i r:Nat)(l:List D):Slot:=.inst 302 (AF O i r l)
noncomputable def bl(ρ:List (Str×Loc))(O:List UInt8)(i r:Nat)(l:List D):St:=⟨ρ,some (iQ O i r l)⟩
noncomputable def gT(O:List UInt8):Prop:=O.length≤100000∧∀b∈O,b.toNat≠13
theorem aJ{O T:List UInt8}{i:Nat}{b:UInt8}(h:O.drop i=b::T):i<O.length∧O[i]? =some b∧O.drop (i+1)=T:=by
 have h1:i<O.length:=by
  refine Nat.lt_of_not_le fun h1=> ?_;rw [List.drop_eq_nil_of_le h1] at h;cases h
 rw [List.drop_eq_getElem_cons h1] at h;obtain ⟨rfl,h2⟩:=List.cons.inj h;exact ⟨h1,List.getElem?_eq_getElem h1,h2⟩
noncomputable abbrev bi(b:UInt8):Int:=(b.toNat:Nat)
section
variable{fn:au}{k:Nat}{ns:ab}{Q:D→St→Prop}{QX:Fl→St→Prop}{ρ:List (Str×Loc)}{O T:List UInt8}{i r:Nat}{l:List D}{b:UInt8}
inductive PJ(ρ:List (Str×Loc))(O:List UInt8)(i r:Nat)(l:List D)(K:Nat→Prop)(d:D)(S:St):Prop where
 |mk (j:Nat) (h1:d= .int j) (h2:S=bl ρ O i r l) (h3:ρ.lookup ("self":Str)=some .ptr) (hQ:K j)
theorem pZ{xp p:Pos}(h1:ρ.lookup ("self":Str)=some .ptr)(hQ:Q (.int i) (bl ρ O i r l)):WD (ah fn (k+2)) ns (.Attribute (.Name "self" xp) "at" p) (bl ρ O i r l) Q:=pz (by decide+kernel) h1 rfl (by kernel_rfl) (by kernel_rfl) rfl hQ
theorem qh{xp p:Pos}(h1:ρ.lookup ("self":Str)=some .ptr)(hQ:Q (.bytes O) (bl ρ O i r l)):WD (ah fn (k+2)) ns (.Attribute (.Name "self" xp) "octets" p) (bl ρ O i r l) Q:=pz (by decide+kernel) h1 rfl (by kernel_rfl) (by kernel_rfl) rfl hQ
theorem Lh{xp p:Pos}(h1:ρ.lookup ("self":Str)=some .ptr)(hQ:Q (.int r) (bl ρ O i r l)):WD (ah fn (k+2)) ns (.Attribute (.Name "self" xp) "row" p) (bl ρ O i r l) Q:=pz (by decide+kernel) h1 rfl (by kernel_rfl) (by kernel_rfl) rfl hQ
theorem GN{v:Expr}{xp tp p:Pos}(h1:cm v=false)(h:WD (ah fn k) ns v (bl ρ O i r l) (PJ ρ O i r l fun j=>QX .next (bl ρ O j r l))):WS (ah fn (k+1)) ns (.Assign [.Attribute (.Name "self" xp) "at" tp] v p) (bl ρ O i r l) QX:=by
 obtain ⟨d,S1,h2,j,rfl,rfl,h3,hQ⟩:=h;exact sH (by decide+kernel) h1 ⟨_,_,h2,302,AF O i r l,AF O j r l,h3,rfl,by kernel_rfl,by kernel_rfl,hQ⟩
theorem Hx{v:Expr}{xp tp p:Pos}(h1:cm v=false)(h:WD (ah fn k) ns v (bl ρ O i r l) (PJ ρ O i r l fun j=>QX .next (bl ρ O i j l))):WS (ah fn (k+1)) ns (.Assign [.Attribute (.Name "self" xp) "row" tp] v p) (bl ρ O i r l) QX:=by
 obtain ⟨d,S1,h2,j,rfl,rfl,h3,hQ⟩:=h;exact sH (by decide+kernel) h1 ⟨_,_,h2,302,AF O i r l,AF O i j l,h3,rfl,by kernel_rfl,by kernel_rfl,hQ⟩
theorem len_bytes(h:O.length≤100000):jg "len" [.bytes O]=some (.int O.length):=if_pos (Nat.le_trans h (by decide))
theorem om(h:O.drop i=b::T)(hO:O.length≤100000):nu (.bytes O) (i:Int)=some (.int (bi b)):=by
 obtain ⟨h1,h2,_⟩:=aJ h;have e:O.getD i 0=b:=by rw [List.getD_eq_getElem?_getD,h2];rfl
 show (if 0≤(i:Int)∧(i:Int) <O.length∧O.length≤sizeLine then some (D.int (O.getD (i:Int).toNat 0).toNat) else none)=_;rw [if_pos ⟨by lia,by lia,Nat.le_trans hO (by decide)⟩,Int.toNat_natCast,e]
theorem BV{n:Nat}(hO:gT O):run (n+1) 222 [.ptr] (some (iQ O i r l))=some (.ok (.bool (decide (O.length≤i))),some (iQ O i r l)):=by
 refine bo (F:=⟨bB 22 1,[]⟩) (by kernel_rfl) rfl (by kernel_rfl) (ρ0:=[("self",.ptr)]) (by kernel_rfl) (by walk_at "o") ?_
 try dsimp only [ai,ak]
 refine aa (cC (xJ rfl (pZ (by walk_at "l") ⟨rfl,iT rfl rfl (by decide+kernel) (by walk_at "l") (by walk_at "l") (id:="len") (by kernel_rfl) (aI rfl (qh (by walk_at "l") (bn ⟨_,_,rfl,len_bytes hO.1,_,rfl, ?_,rfl⟩)))⟩)));exact congrArg D.bool (decide_eq_decide.mpr (by constructor<;>intro h<;>lia))
theorem gb{n:Nat}(hO:gT O){xp ap p:Pos}(hb:(decide (([]:List Expr).length≤8)&&cF (.Attribute (.Name "self" xp) "is_over" ap) p&& ([]:List Expr).all aE)=true)(hs:ρ.lookup ("self":Str)=some .ptr)(hQ:Q (.bool (decide (O.length≤i))) (bl ρ O i r l)):WD (ah (run (n+1)) (k+2)) ns (.Call (.Attribute (.Name "self" xp) "is_over" ap) [] [] p) (bl ρ O i r l) Q:=
 eg rfl hb (by decide+kernel) hs rfl (f:=222) (by kernel_rfl) (by kernel_rfl) (bn ⟨_,_,_,rfl,BV hO,hQ⟩)
theorem BO{n:Nat}(hO:gT O)(h:O.drop i=b::T):run (n+2) 229 [.ptr] (some (iQ O i r l))=some (.ok (.int (bi b)),some (iQ O i r l)):=by
 refine bo (F:=⟨bB 22 2,[]⟩) (by kernel_rfl) rfl (by kernel_rfl) (ρ0:=[("self",.ptr)]) (by kernel_rfl) (by walk_at "o") ?_
 try dsimp only [ai,ak]
 obtain ⟨h1,h2,_⟩:=aJ h;have Nn:(bi b==13)=false:=by
  have:=hO.2 b (List.mem_of_getElem? h2);exact beq_eq_false_iff_ne.mpr (by intro e;unfold bi at e;lia)
 refine aa (bC (cV rfl (gb hO rfl (by walk_at "l") ⟨_,rfl, ?_⟩)));rw [if_neg (by simpa using h1)];refine aO ?_;refine aa (bX rfl rfl rfl (by decide+kernel) (ft rfl (qh (by walk_at "l") (pZ (by walk_at "l") ⟨_,_,rfl,om h hO.1, ?_⟩))));unfold bl;walk_at "w"
 refine aa (bC (bu (bj (aF rfl (af (by decide+kernel) (by walk_at "l") ⟨rfl,aj rfl ⟨_,eq_int, ?_⟩⟩)))));rw [Nn,if_neg (by simp),if_neg (by simp)];iterate 4 walk_at "w"
 exact ⟨rfl,rfl⟩
theorem bK{n:Nat}(hO:gT O)(h:O.drop i=b::T){xp ap p:Pos}(hb:(decide (([]:List Expr).length≤8)&&cF (.Attribute (.Name "self" xp) "peek" ap) p&& ([]:List Expr).all aE)=true)(hs:ρ.lookup ("self":Str)=some .ptr)(hQ:Q (.int (bi b)) (bl ρ O i r l)):WD (ah (run (n+2)) (k+2)) ns (.Call (.Attribute (.Name "self" xp) "peek" ap) [] [] p) (bl ρ O i r l) Q:=
 eg rfl hb (by decide+kernel) hs rfl (f:=229) (by kernel_rfl) (by kernel_rfl) (bn ⟨_,_,_,rfl,BO hO h,hQ⟩)
theorem Bo{n:Nat}(hO:gT O)(h:O.drop i=b::T): ∃r',run (n+3) 236 [.ptr] (some (iQ O i r l))=some (.ok (.int (bi b)),some (iQ O (i+1) r' l)):=by
 obtain ⟨h1,h2,_⟩:=aJ h;have Nn:(bi b==13)=false:=by
  have:=hO.2 b (List.mem_of_getElem? h2);exact beq_eq_false_iff_ne.mpr (by intro e;unfold bi at e;lia)
 have ho:decide (O.length≤i)=false:=by simpa using h1
 refine ⟨if bi b=10 then r+1 else r, ?_⟩;refine bo (F:=⟨bB 22 3,[]⟩) (by kernel_rfl) rfl (by kernel_rfl) (ρ0:=[("self",.ptr)]) (by kernel_rfl) (by walk_at "o") ?_
 try dsimp only [ai,ak]
 refine aa (bX rfl rfl rfl (by decide+kernel) (bK hO h rfl (by walk_at "l") ?_));unfold bl;walk_at "w"
 refine aa (bC (aF rfl (af (by decide+kernel) (by walk_at "l") ⟨rfl,aj rfl ⟨_,eq_int, ?_⟩⟩)));have ht:((10:Int)==13)=false:=rfl
 cases AO:bi b==10 with
 |true=>
  have Mg:bi b=10:=by simpa using AO
  rw [if_pos rfl,if_pos Mg];refine aa (Hx rfl (eP (Lh (by walk_at "l") (aj rfl ⟨_,rfl,r+1,rfl,rfl,by walk_at "l", ?_⟩))));refine aa (bC (bu (bj (fO (cV rfl (gb hO rfl (by walk_at "l") ⟨_,rfl, ?_⟩))))));rw [ho,if_pos (show (!false)=true from rfl)];refine bj (aF rfl (ft rfl (qh (by walk_at "l") (pZ (by walk_at "l") ⟨_,_,rfl,om h hO.1,rfl,aj rfl ⟨_,eq_int, ?_⟩⟩))));rw [Nn,if_neg (by simp),if_neg (by simp)];iterate 2 refine aO ?_
  refine aa (bC (fO (cV rfl (gb hO rfl (by walk_at "l") ⟨_,rfl, ?_⟩))));rw [ho,if_pos (show (!false)=true from rfl)];refine aa (GN rfl (eP (pZ (by walk_at "l") (aj rfl ⟨_,rfl,i+1,rfl,rfl,by walk_at "l", ?_⟩))));refine aO ?_;exact aa (cC (af (by decide+kernel) (by walk_at "l") ⟨rfl,rfl⟩))
 |false=>
  have Mg: ¬bi b=10:=by simpa using AO
  rw [if_neg (by simp),if_neg Mg];refine aO ?_;refine aa (bC (fO (cV rfl (gb (ρ:=[("self",Loc.ptr),lo "one" (.int (bi b))]) (O:=O) (i:=i) (r:=r) (l:=l) hO rfl (by walk_at "l") ⟨_,rfl, ?_⟩))));rw [ho,if_pos (show (!false)=true from rfl)];refine aa (GN rfl (eP (pZ (by walk_at "l") (aj rfl ⟨_,rfl,i+1,rfl,rfl,by walk_at "l", ?_⟩))));refine aO ?_;exact aa (cC (af (by decide+kernel) (by walk_at "l") ⟨rfl,rfl⟩))
theorem oV{n:Nat}(hO:gT O)(h:O.drop i=b::T){xp ap p:Pos}(hb:(decide (([]:List Expr).length≤8)&&cF (.Attribute (.Name "self" xp) "take" ap) p&& ([]:List Expr).all aE)=true)(hs:ρ.lookup ("self":Str)=some .ptr)(hQ: ∀r',Q (.int (bi b)) (bl ρ O (i+1) r' l)):WD (ah (run (n+3)) (k+2)) ns (.Call (.Attribute (.Name "self" xp) "take" ap) [] [] p) (bl ρ O i r l) Q:=by
 obtain ⟨r',h1⟩:=Bo (n:=n) (r:=r) (l:=l) hO h;exact eg rfl hb (by decide+kernel) hs rfl (f:=236) (by kernel_rfl) (by kernel_rfl) (bn ⟨_,_,_,rfl,h1,hQ r'⟩)
theorem dT{n:Nat}(hO:gT O)(h:O.drop i=b::T){xp ap p p':Pos}(hb:(decide (([]:List Expr).length≤8)&&cF (.Attribute (.Name "self" xp) "take" ap) p&& ([]:List Expr).all aE)=true)(hs:ρ.lookup ("self":Str)=some .ptr)(hQ: ∀r',QX .next (bl ρ O (i+1) r' l)):WS (ah (run (n+3)) (k+3)) ns (.Expr (.Call (.Attribute (.Name "self" xp) "take" ap) [] [] p) p') (bl ρ O i r l) QX:=
 oL rfl rfl rfl (oV hO h hb hs hQ)
end
theorem q8{p:Nat→Bool}(h:((List.range 256).all p)=true)(b:UInt8):p b.toNat=true:=List.all_eq_true.mp h _ (List.mem_range.mpr b.toNat_lt)
theorem ir{β:Type}{f g:Nat→β}(h:(List.range 256).map f= (List.range 256).map g)(b:UInt8):f b.toNat=g b.toNat:=List.map_inj_left.mp h _ (List.mem_range.mpr b.toNat_lt)
noncomputable def rT(n:Nat):Bool:=Nat.ble 97 n&&Nat.ble n 122||Nat.ble 65 n&&Nat.ble n 90||Nat.ble 48 n&&Nat.ble n 57||Nat.beq n 45
noncomputable def Gc(n:Nat):Bool:=Nat.ble 97 n&&Nat.ble n 122||Nat.ble 65 n&&Nat.ble n 90
noncomputable def Dc(n:Nat):Bool:=Nat.beq n 32||Nat.beq n 9||Nat.beq n 10||Nat.beq n 13
noncomputable def Ew(n:Nat):Nat:=if Nat.ble 65 n&&Nat.ble n 90 then n+32 else n
theorem BD{b:UInt8}(h:rT b.toNat=true):(bi b==93)=false∧(bi b==32)=false∧(bi b==9)=false:=by
 have h1:=q8 (p:=fun n=> !rT n|| (!((n:Int)==93)&& !((n:Int)==32)&& !((n:Int)==9))) (by kernel_rfl) b;rw [h] at h1;simp only [Bool.not_true,Bool.false_or,Bool.and_eq_true,Bool.not_eq_true'] at h1;exact ⟨h1.1.1,h1.1.2,h1.2⟩
theorem pe{n:Nat}(b:UInt8):run (n+2) 87 [.d (.int (bi b))] none=some (.ok (.bool (rT b.toNat)),none):=ir (f:=fun m=>run (n+2) 87 [.d (.int (m:Nat))] none) (g:=fun m=>some (.ok (.bool (rT m)),none)) (by kernel_rfl) b
theorem wg{n:Nat}(b:UInt8):run (n+1) 80 [.d (.int (bi b))] none=some (.ok (.bool (Gc b.toNat)),none):=ir (f:=fun m=>run (n+1) 80 [.d (.int (m:Nat))] none) (g:=fun m=>some (.ok (.bool (Gc m)),none)) (by kernel_rfl) b
theorem lR(b:UInt8):jg "chr" [.int (bi b)]=some (.str ⟨#[b.toNat]⟩):=ir (f:=fun m=>jg "chr" [.int (m:Nat)]) (g:=fun m=>some (.str ⟨#[m]⟩)) (by kernel_rfl) b
theorem Fg{b:UInt8}(h:rT b.toNat=true):kP ⟨#[b.toNat]⟩ "lower" []=some (.str ⟨#[Ew b.toNat]⟩):=by
 have h1:=ir (f:=fun m=>if rT m then kP ⟨#[m]⟩ "lower" [] else none) (g:=fun m=>if rT m then some (.str ⟨#[Ew m]⟩) else none) (by kernel_rfl) b
 rwa [if_pos h,if_pos h] at h1
theorem yS(b:UInt8):As (.int (bi b)) (.tup [.int 32,.int 9,.int 10,.int 13])=some (Dc b.toNat):=ir (f:=fun m=>As (.int (m:Nat)) (.tup [.int 32,.int 9,.int 10,.int 13])) (g:=fun m=>some (Dc m)) (by kernel_rfl) b
noncomputable def strN(w:List Nat):Str:=⟨w.toArray⟩
noncomputable def eq(w:List UInt8):Str:=strN (w.map UInt8.toNat)
theorem add_str{x y:Str}(h:x.length+y.length≤sizeLine):lz .Add (.str x) (.str y)=some (.str (x++y)):=by
 show AA (if x.length+y.length≤sizeLine then some (D.str (x++y)) else none) _=_;rw [if_pos h]<;>rfl
theorem DR{w:List Nat}{m:Nat}(h:w.length≤100000):lz .Add (.str (strN w)) (.str ⟨#[m]⟩)=some (.str (strN (w++ [m]))):=by
 have e:strN w++ ⟨#[m]⟩=strN (w++ [m]):=by show (⟨w.toArray++ #[m]⟩:Str)= ⟨(w++ [m]).toArray⟩;simp
 have hl:(strN w).length=w.length:=by show w.toArray.size=w.length;simp
 have h1:(⟨#[m]⟩:Str).length=1:=rfl;exact (add_str (by rw [hl,h1,sizeLine_eq];exact Nat.le_trans (Nat.succ_le_succ h) (by decide))).trans (by rw [e])
theorem uA{w:List UInt8}{b:UInt8}(h:w.length≤100000):lz .Add (.str (eq w)) (.str ⟨#[b.toNat]⟩)=some (.str (eq (w++ [b]))):=by
 unfold eq;rw [DR (by rw [List.length_map];exact h),List.map_append];rfl
theorem uI{w:List Nat}(h:w≠[]):(strN w=="")=false:=by
 refine beq_eq_false_iff_ne.mpr fun e=>h ?_;have h1:w.toArray.toList= ("":Str).cps.toList:=congrArg (fun x:Str=>x.cps.toList) e;rw [show ("":Str).cps.toList= [] from by kernel_rfl] at h1
 simpa using h1
theorem mu{O u v:List UInt8}{i:Nat}(h:O.drop i=u++v):O.drop (i+u.length)=v:=by
 rw [←List.drop_drop,h,List.drop_left]
theorem Gp{O u v:List UInt8}{i:Nat}(h:O.drop i=u++v)(hO:O.length≤100000):u.length≤100000:=by
 have:=congrArg List.length h;rw [List.length_drop,List.length_append] at this;exact Nat.le_trans (Nat.le_trans (Nat.le_add_right _ _) (Nat.le_of_eq this.symm)) (Nat.le_trans (Nat.sub_le _ _) hO)
section
variable{k:Nat}{O T:List UInt8}{i r:Nat}{l:List D}{b:UInt8}
theorem BB{n:Nat}(hO:gT O)(w:List UInt8)(hw:w.length≤1000)(hb: ∀b∈w,bi b=32)(h:O.drop i=w++b::T)(h1:(bi b==32)=false)(h2:(bi b==9)=false): ∃r',run (n+4) 243 [.ptr] (some (iQ O i r l))=some (.ok .none,some (iQ O (i+w.length) r' l)):=by
 suffices hs:WX (ah (run (n+3)) 60) (ai (bB 22 4)).names (ak (bB 22 4)) (bl [("self",.ptr)] O i r l) fun f S=>gY f= .none∧∃r',S=bl [("self",.ptr)] O (i+w.length) r' l by
  obtain ⟨f,S,e1,e2,r',rfl⟩:=hs;exact ⟨r',bo (F:=⟨bB 22 4,[]⟩) (by kernel_rfl) rfl (by kernel_rfl) (ρ0:=[("self",.ptr)]) (by kernel_rfl) rfl ⟨f,_,e1,e2,rfl⟩⟩
 generalize em:bB 22 4=st;replace em:=em.symm;revert em
 conv=>lhs;rhs;unfold bB bg pw;whnf
 rintro rfl
 try dsimp only [ai,ak]
 refine aa (iC (lF (fun pre post S=>∃r',S=bl [("self",.ptr)] O (i+pre.length) r' l∧O.drop (i+pre.length)=post++b::T) w hw ⟨r,rfl,h⟩ (fun pre x post S e hS=> ?_) (fun m S hS=> ?_)))
 ·obtain ⟨r',rfl,hd⟩:=hS
  have hx:bi x=32:=hb x (by rw [e];simp);refine bu (dw (aF rfl (bK hO hd rfl (by walk_at "l") ⟨rfl,aj rfl ⟨_,eq_int, ?_⟩⟩)));rw [hx];refine ⟨rfl, ?_⟩;refine aa (dT hO hd rfl (by walk_at "l") fun DZ=>aO ⟨fun v e=>(nomatch e),DZ, ?_, ?_⟩)
  ·rw [List.length_append];rfl
  ·rw [List.length_append,List.length_singleton, ←Nat.add_assoc];exact (aJ hd).2.2
 ·obtain ⟨r',rfl,hd⟩:=hS
  refine gC (bu (dw (aF rfl (bK hO hd rfl (by walk_at "l") ⟨rfl,aj rfl ⟨_,eq_int, ?_⟩⟩))));refine bD h1 ?_;refine dw (aF rfl (bK hO hd rfl (by walk_at "l") ⟨rfl,aj rfl ⟨_,eq_int, ?_⟩⟩));refine bD h2 ?_;refine dB ?_;refine bD rfl ?_;exact aO ⟨rfl,r',rfl⟩
theorem y8{n:Nat}(hO:gT O)(w:List UInt8)(hw:w.length≤1000)(hb: ∀b∈w,rT b.toNat=true)(h:O.drop i=w++b::T)(h1:rT b.toNat=false): ∃r',run (n+4) 278 [.ptr] (some (iQ O i r l))=some (.ok (.str (eq w)),some (iQ O (i+w.length) r' l)):=by
 suffices hs:WX (ah (run (n+3)) 60) (ai (bB 22 9)).names (ak (bB 22 9)) (bl [("self",.ptr)] O i r l) fun f S=>gY f= .str (eq w)∧∃r',S.σ=some (iQ O (i+w.length) r' l) by
  obtain ⟨f,S,e1,e2,r',e3⟩:=hs;exact ⟨r',bo (F:=⟨bB 22 9,[]⟩) (by kernel_rfl) rfl (by kernel_rfl) (ρ0:=[("self",.ptr)]) (by kernel_rfl) rfl ⟨f,_,e1,e2,e3⟩⟩
 generalize em:bB 22 9=st;replace em:=em.symm;revert em
 conv=>lhs;rhs;unfold bB bg pw;whnf
 rintro rfl
 try dsimp only [ai,ak]
 unfold bl;iterate 4 walk_at "w"
 refine aa (iC (lF (fun pre post S=>∃r',S=bl [("self",.ptr),lo "found" (.str (eq pre))] O (i+pre.length) r' l∧O.drop (i+pre.length)=post++b::T) w hw ⟨r,rfl,h⟩ (fun pre x post S e hS=> ?_) (fun m S hS=> ?_)))
 ·obtain ⟨r',rfl,hd⟩:=hS
  have hx:=hb x (by rw [e];simp);refine cV rfl (fZ rfl rfl (by decide+kernel) (by walk_at "l") (by walk_at "l") (a:=87) (by kernel_rfl) (by kernel_rfl) (aI rfl (bK hO hd rfl (by walk_at "l") (bn ⟨rfl,_,pe x,_,rfl,hx, ?_⟩))));refine aa (bX rfl rfl rfl (by decide+kernel) (eP (af (by decide+kernel) (by walk_at "l") (iT rfl rfl (by decide+kernel) (by walk_at "l") (by walk_at "l") (id:="chr") (by kernel_rfl) (aI rfl (oV hO hd rfl (by walk_at "l") fun DZ=>bn ⟨_,_,rfl,lR x,_,uA (by rw [e,List.length_append] at hw;lia), ?_⟩))))));unfold bl;walk_at "w"
  refine aO ⟨fun v e=>(nomatch e),DZ, ?_, ?_⟩
  ·rw [List.length_append];rfl
  ·rw [List.length_append,List.length_singleton, ←Nat.add_assoc];exact (aJ hd).2.2
 ·obtain ⟨r',rfl,hd⟩:=hS
  refine gC (cV rfl (fZ rfl rfl (by decide+kernel) (by walk_at "l") (by walk_at "l") (a:=87) (by kernel_rfl) (by kernel_rfl) (aI rfl (bK hO hd rfl (by walk_at "l") (bn ⟨rfl,_,pe b,_,rfl, ?_⟩)))));refine bD h1 ?_;unfold bl;iterate 3 walk_at "w"
  exact ⟨rfl,r',rfl⟩
end
theorem oM{n:Nat}{a:Addr}{F:dj}{st:Stmt}{args:List V}{σ:Option Slot}{d:D}{ρ0:List (Str×Loc)}{O:List UInt8}{i:Nat}{l:List D}(hF:lC.lookup a=some F)(lx:(a==857)=false)(vn:gS F args.length=true)(hρ:ej F args=ρ0)(em:F.st=st)
  (h:WX (ah (run n) 60) (ai st).names (ak st) ⟨ρ0,σ⟩ fun f S=>gY f=d∧∃r',S.σ=some (iQ O i r' l)): ∃r',run (n+1) a args σ=some (.ok d,some (iQ O i r' l)):=by
 obtain ⟨f,S,e1,e2,r',e3⟩:=h;exact ⟨r',bo hF lx vn hρ em ⟨f,_,e1,e2,e3⟩⟩
theorem B5(x y:Str):(x++y).length=x.length+y.length:=Array.size_append
theorem jJ(w:List Nat):(strN w).length=w.length:=by show w.toArray.size=_;simp
theorem Hr{r:ba}{ns:ab}{e:Expr}{S:St}{QB:Bool→St→Prop}{g:Bool}(h:WB r ns e S fun c S'=>c=g∧S'=S)(hQ:QB g S):WB r ns e S QB:=by
 obtain ⟨d,S',h1,rfl,rfl⟩:=h;exact ⟨_,_,h1,hQ⟩
theorem DQ{x y:Str}(h:x.length+y.length≤200000):lz .Add (.str x) (.str y)=some (.str (x++y)):=add_str (Nat.le_trans h (by decide))
noncomputable def ut(b:UInt8):Prop:=(bi b==34)=false∧(bi b==92)=false∧(bi b==10)=false∧(bi b==0)=false
section
variable{k:Nat}{O T:List UInt8}{i r:Nat}{l:List D}{b:UInt8}
theorem sY{n k:Nat}{ns:ab}{Q:D→St→Prop}{ρ:List (Str×Loc)}(hO:gT O)(w:List UInt8)(hw:w.length≤1000)(hb: ∀b∈w,bi b=32)(h:O.drop i=w++b::T)(h1:(bi b==32)=false)(h2:(bi b==9)=false){xp ap p:Pos}(hl:(decide (([]:List Expr).length≤8)&&cF (.Attribute (.Name "self" xp) "skip_blanks" ap) p&& ([]:List Expr).all aE)=true)(hs:ρ.lookup ("self":Str)=some .ptr)(hQ: ∀r',Q .none (bl ρ O (i+w.length) r' l)):WD (ah (run (n+4)) (k+2)) ns (.Call (.Attribute (.Name "self" xp) "skip_blanks" ap) [] [] p) (bl ρ O i r l) Q:=by
 obtain ⟨r',h3⟩:=BB (n:=n) (r:=r) (l:=l) hO w hw hb h h1 h2;exact eg rfl hl (by decide+kernel) hs rfl (f:=243) (by kernel_rfl) (by kernel_rfl) (bn ⟨_,_,_,rfl,h3,hQ r'⟩)
theorem tj{n:Nat}(hO:gT O)(q:List UInt8)(hw:q.length≤1000)(hb: ∀b∈q,ut b)(h:O.drop i=32::34:: (q++34::93::T)): ∃r',run (n+5) 271 [.ptr] (some (iQ O i r l))=some (.ok (.str (eq q)),some (iQ O (i+q.length+4) r' l)):=by
 refine oM (F:=⟨bB 22 8,[]⟩) (by kernel_rfl) rfl (by kernel_rfl) (ρ0:=[("self",.ptr)]) (by kernel_rfl) (by walk_at "o") ?_
 try dsimp only [ai,ak]
 have h1:=(aJ h).2.2;have h2:=(aJ h1).2.2;refine aa (oL rfl rfl rfl (sY hO [32] (by decide) (by intro b m;rw [List.mem_singleton.mp m];rfl) h rfl rfl rfl (by walk_at "l") fun r1=> ?_));refine aa (bC (aF rfl (bK hO h1 rfl (by walk_at "l") ⟨rfl,aj rfl ⟨_,ne_int, ?_⟩⟩)));rw [if_neg (by decide)];refine aO (aa (dT hO h1 rfl (by walk_at "l") fun r2=> ?_));unfold bl;iterate 4 walk_at "w"
 refine aa (iC (lF (fun pre post S=>∃r',S=bl [("self",.ptr),lo "found" (.str (eq pre))] O (i+2+pre.length) r' l∧O.drop (i+2+pre.length)=post++34::93::T) q hw ⟨r2,rfl,h2⟩ (fun pre x post S e hS=> ?_) (fun m S hS=> ?_)))
 ·obtain ⟨r',rfl,hd⟩:=hS
  obtain ⟨y1,y2,y3,y4⟩:=hb x (by rw [e];simp);refine aF rfl (bK hO hd rfl (by walk_at "l") ⟨rfl,aj rfl ⟨_,ne_int,by rw [y1];rfl, ?_⟩⟩);refine aa (bC (aF rfl (bK hO hd rfl (by walk_at "l") ⟨rfl,aj rfl ⟨_,eq_int, ?_⟩⟩)));refine bD y2 ?_;refine aO (aa (bC (bu (dw (aF rfl (bK hO hd rfl (by walk_at "l") ⟨rfl,aj rfl ⟨_,eq_int, ?_⟩⟩))))));refine bD y3 ?_;refine dw (aF rfl (bK hO hd rfl (by walk_at "l") ⟨rfl,aj rfl ⟨_,eq_int, ?_⟩⟩));refine bD y4 ?_;refine dB ?_;refine bD rfl ?_;refine aO (aa (bX rfl rfl rfl (by decide+kernel) (eP (af (by decide+kernel) (by walk_at "l") (iT rfl rfl (by decide+kernel) (by walk_at "l") (by walk_at "l") (id:="chr") (by kernel_rfl) (aI rfl (oV hO hd rfl (by walk_at "l") fun DZ=>bn ⟨_,_,rfl,lR x,_,uA (by rw [e,List.length_append] at hw;lia), ?_⟩)))))));unfold bl;walk_at "w"
  refine aO ⟨fun v e=>(nomatch e),DZ, ?_, ?_⟩
  ·rw [List.length_append];rfl
  ·rw [List.length_append,List.length_singleton, ←Nat.add_assoc];exact (aJ hd).2.2
 ·obtain ⟨r',rfl,hd⟩:=hS
  have rX:=(aJ hd).2.2;refine gC (aF rfl (bK hO hd rfl (by walk_at "l") ⟨rfl,aj rfl ⟨_,ne_int, ?_⟩⟩));rw [if_neg (by decide)];refine aa (dT hO hd rfl (by walk_at "l") fun r3=> ?_);refine aa (bC (aF rfl (bK hO rX rfl (by walk_at "l") ⟨rfl,aj rfl ⟨_,ne_int, ?_⟩⟩)));rw [if_neg (by decide)];refine aO (aa (dT hO rX rfl (by walk_at "l") fun r4=> ?_));unfold bl;iterate 3 walk_at "w"
  refine ⟨rfl,r4, ?_⟩;rw [show i+2+q.length+1+1=i+q.length+4 from by lia]
noncomputable def nq(w:List UInt8):List Nat:=w.map fun b=>Ew b.toNat
noncomputable def ew:Option (List UInt8)→List UInt8
 |none=>[93]
 |some q=>32::34:: (q++ [34,93])
noncomputable def gI(w:List UInt8):Option (List UInt8)→Str
 |none=>strN (nq w)
 |some q=>strN (nq w)++"."++eq q
theorem wq{n:Nat}(hO:gT O)(w:List UInt8)(t:Option (List UInt8))(hw:w.length≤1000)(Rb:w≠[])(hb: ∀b∈w,rT b.toNat=true)(ht: ∀q,t=some q→q.length≤1000∧∀b∈q,ut b)(h:O.drop i=91:: (w++ (ew t++T))):
  ∃r',run (n+6) 264 [.ptr] (some (iQ O i r l))=some (.ok (.str (gI w t)),some (iQ O (i+ (1+w.length+ (ew t).length)) r' l)):=by
 refine oM (F:=⟨bB 22 7,[]⟩) (by kernel_rfl) rfl (by kernel_rfl) (ρ0:=[("self",.ptr)]) (by kernel_rfl) (by walk_at "o") ?_
 try dsimp only [ai,ak]
 have h1:=(aJ h).2.2;refine aa (dT hO h rfl (by walk_at "l") fun r1=> ?_);unfold bl;iterate 4 walk_at "w"
 have G5:(strN (nq w)=="")=false:=uI (by unfold nq;simpa using Rb)
 let base:List UInt8→List (Str×Loc):=fun pre=>[("self",.ptr),lo "head" (.str (strN (nq pre)))]
 refine aa (iC (lF (fun pre post S=>∃r' tl,(Tl ["one"] tl∧S=bl (base pre++tl) O (i+1+pre.length) r' l)∧O.drop (i+1+pre.length)=post++ (ew t++T)) w hw ⟨r1,[],⟨.inl rfl,rfl⟩,h1⟩ (fun pre x post S e hS=> ?_) (fun m S hS=> ?_)))
 ·obtain ⟨r',tl,⟨Rj,rfl⟩,hd⟩:=hS
  have hx:=hb x (by rw [e];simp);have D8:pre.length≤1000:=by rw [e,List.length_append] at hw;lia
  obtain ⟨y1,y2,y3⟩:=BD hx
  try dsimp only [base,List.cons_append,List.nil_append]
  refine aF rfl (bK hO hd rfl (by walk_at "l") ⟨rfl,aj rfl ⟨_,ne_int,by rw [y1];rfl, ?_⟩⟩);refine aa (bX rfl rfl rfl (by decide+kernel) (bK hO hd rfl (by walk_at "l") ?_));unfold bl;walk_at "w"
  refine aa (bC (Hr (g:=false) (bu (bj (aF rfl (af (by decide+kernel) (by walk_at "l") ⟨rfl,aj rfl ⟨_,rfl, ?_⟩⟩)))) ?_))
  ·cases hc:strN (nq pre)=="" with
   |true=>
    refine bD rfl ?_;exact ⟨rfl,rfl⟩
   |false=>
    refine eC rfl ?_;refine bj (bu (dw (aF rfl (af (by decide+kernel) (by walk_at "l") ⟨rfl,aj rfl ⟨_,eq_int, ?_⟩⟩))));refine bD y2 ?_;refine dw (aF rfl (af (by decide+kernel) (by walk_at "l") ⟨rfl,aj rfl ⟨_,eq_int, ?_⟩⟩));refine bD y3 ?_;refine dB ?_;refine bD rfl ?_;exact ⟨rfl,rfl⟩
  refine bD rfl ?_;refine aO ?_;refine aa (bC (bu (bj (fO (cV rfl (fZ rfl rfl (by decide+kernel) (by walk_at "l") (by walk_at "l") (a:=87) (by kernel_rfl) (by kernel_rfl) (aI rfl (af (by decide+kernel) (by walk_at "l") (bn ⟨rfl,_,pe x,_,rfl, ?_⟩)))))))));rw [hx,if_neg (by simp),if_neg (by simp)];refine aO (aa (bX rfl rfl rfl (by decide+kernel) (eP (af (by decide+kernel) (by walk_at "l") ?_))));refine xI rfl rfl (by kernel_rfl) (iT rfl rfl (by decide+kernel) (by walk_at "l") (by walk_at "l") (id:="chr") (by kernel_rfl) (aI rfl ?_));refine oV (ρ:=base pre++ [lo "one" (.int (bi x))]) (O:=O) (i:=i+1+pre.length) (r:=r') (l:=l) hO hd rfl (by walk_at "l") fun DZ=>bn ⟨_,_,rfl,lR x,_,rfl,by kernel_rfl,bn ⟨[],_,rfl,Fg hx,_,DR (by unfold nq;rw [List.length_map];lia), ?_⟩⟩;unfold bl
  try dsimp only [base,List.cons_append,List.nil_append]
  walk_at "w"
  refine aO ⟨fun v e=>(nomatch e),DZ,[lo "one" (.int (bi x))],⟨.inr rfl, ?_⟩, ?_⟩
  rotate_left
  ·rw [List.length_append,List.length_singleton, ←Nat.add_assoc];exact (aJ hd).2.2
  ·rw [List.length_append]
   unfold nq;rw [List.map_append];rfl
 ·obtain ⟨r',tl,⟨Rj,rfl⟩,hd⟩:=hS
  cases t with
  |none=>
   try dsimp only [base,List.cons_append,List.nil_append]
   refine gC (aF rfl (bK hO hd rfl (by walk_at "l") ⟨rfl,aj rfl ⟨_,ne_int, ?_⟩⟩));rw [if_neg (by decide)]
   try dsimp only
   refine aa (bC (aF rfl ?_));unfold bl;walk_at "w"
   refine ⟨rfl, ?_⟩;walk_at "w"
   refine ⟨_,rfl, ?_⟩;refine bD G5 ?_;refine aO (aa (dT (O:=O) (i:=i+1+w.length) (r:=r') (l:=l) hO hd rfl (by walk_at "l") fun r3=> ?_));unfold bl;iterate 3 walk_at "w"
   refine ⟨rfl,r3, ?_⟩;rw [show i+ (1+w.length+ (ew none).length)=i+1+w.length+1 from by show i+ (1+w.length+1)=_;lia]
  |some q=>
   obtain ⟨Rm,MK⟩:=ht q rfl;have pR:O.drop (i+1+w.length)=32::34:: (q++34::93::T):=by rw [hd];unfold ew;simp
   have TW:(nq w).length≤1000:=by unfold nq;rw [List.length_map];exact hw
   try dsimp only [base,List.cons_append,List.nil_append]
   refine gC (aF rfl (bK hO pR rfl (by walk_at "l") ⟨rfl,aj rfl ⟨_,ne_int, ?_⟩⟩));rw [if_pos (by decide)];refine aa (bX rfl rfl rfl (by decide+kernel) (bK hO pR rfl (by walk_at "l") ?_));unfold bl;walk_at "w"
   refine aa (bC (bu (bj (aF rfl (af (by decide+kernel) (by walk_at "l") ⟨rfl,aj rfl ⟨_,rfl, ?_⟩⟩)))));rw [G5,if_pos (by rfl)];refine bj (bu (dw (aF rfl (af (by decide+kernel) (by walk_at "l") ⟨rfl,aj rfl ⟨_,eq_int, ?_⟩⟩))));rw [if_pos (by decide),if_pos rfl];refine dB ?_;refine eC rfl ?_;obtain ⟨r4,h4⟩:=tj (n:=n) (r:=r') (l:=l) hO q Rm MK pR;refine aa (cC (eP (eP (af (by decide+kernel) (by walk_at "l") (aj rfl ⟨_,DQ (by rw [jJ];show _+1≤_;lia), ?_⟩)))));refine eg rfl rfl (by decide+kernel) (by walk_at "l") rfl (f:=271) (by kernel_rfl) (by kernel_rfl) (bn ⟨_,_,_,rfl,h4, ?_⟩);refine ⟨_,DQ (by rw [B5,jJ];unfold eq;rw [jJ,List.length_map];show _+1+_≤_;lia),rfl,r4, ?_⟩;have hT:(ew (some q)).length=q.length+4:=by unfold ew;simp
   rw [hT,show i+ (1+w.length+ (q.length+4))=i+1+w.length+q.length+4 from by lia]
end
noncomputable def lH(b:UInt8):Prop:=(bi b==10)=false∧(bi b==35)=false∧(bi b==59)=false∧(bi b==34)=false∧(bi b==92)=false
noncomputable def fG(s:List UInt8×Nat)(b:UInt8):List UInt8×Nat:=if Dc b.toNat then (match s.1 with|[]=>s|f=>(f++ [b],s.2)) else (s.1++ [b],s.1.length+1)
noncomputable def fL(w:List UInt8):List UInt8×Nat:=w.foldl fG ([],0)
noncomputable def ug(w:List UInt8):Str:=Txt.slice (eq (fL w).1) none (some ((fL w).2:Int))
theorem EX(s:List UInt8×Nat)(b:UInt8)(h:s.2≤s.1.length):(fG s b).1.length≤s.1.length+1∧(fG s b).2≤(fG s b).1.length:=by
 obtain ⟨f,n⟩:=s;unfold fG
 cases Dc b.toNat with
 |false=>
  show (f++ [b]).length≤f.length+1∧f.length+1≤(f++ [b]).length;rw [List.length_append];exact ⟨Nat.le_refl _,Nat.le_refl _⟩
 |true=>
  cases f with
  |nil=>exact ⟨Nat.le_succ _,h⟩
  |cons x f=>
   show ((x::f)++ [b]).length≤(x::f).length+1∧n≤((x::f)++ [b]).length;rw [List.length_append];exact ⟨Nat.le_refl _,Nat.le_succ_of_le h⟩
theorem xR(w:List UInt8): ∀s:List UInt8×Nat,s.2≤s.1.length→(w.foldl fG s).1.length≤s.1.length+w.length∧(w.foldl fG s).2≤(w.foldl fG s).1.length:=by
 induction w with
 |nil=>exact fun s h=>⟨Nat.le_refl _,h⟩
 |cons b r ih=>exact fun s h=>let h1:=EX s b h;⟨Nat.le_trans (ih _ h1.2).1 (Nat.le_trans (Nat.add_le_add_right h1.1 _) (Nat.le_of_eq (Nat.add_right_comm _ _ _))),(ih _ h1.2).2⟩
theorem len_str{x:Str}(h:x.length≤100000):jg "len" [.str x]=some (.int x.length):=if_pos (Nat.le_trans h (by decide))
theorem me(w:List UInt8):(eq w).length=w.length:=by unfold eq;rw [jJ,List.length_map]
theorem fT{m:Nat}(h:m≤1000000):gh (.int (m:Int))=some (some (m:Int)):=by
 have h1: -(2:Int) ^ 62≤(m:Int):=Int.le_trans (show -(2:Int) ^ 62≤0 from by decide+kernel) (Int.natCast_nonneg m);have h2:(m:Int) < (2:Int) ^ 62:=Int.lt_of_le_of_lt (Int.ofNat_le.mpr h) (by decide+kernel);unfold gh
 try dsimp only
 rw [if_pos ⟨h1,h2⟩]
theorem jA(b:UInt8):gR .In (.int (bi b)) (.tup [.int 32,.int 9,.int 10,.int 13])=some (Dc b.toNat):=yS b
theorem lW:eq []="":=by kernel_rfl
theorem Bv{w:List UInt8}(h:w≠[]):(eq w=="")=false:=uI (by simpa using h)
section
variable{O T:List UInt8}{i r:Nat}{l:List D}
theorem zc{n:Nat}(hO:gT O)(w:List UInt8)(hw:w.length≤1000)(hb: ∀b∈w,lH b)(h:O.drop i=w++10::T): ∃r',run (n+4) 292 [.ptr] (some (iQ O i r l))=some (.ok (.str (ug w)),some (iQ O (i+w.length+1) r' l)):=by
 refine oM (F:=⟨bB 22 11,[]⟩) (by kernel_rfl) rfl (by kernel_rfl) (ρ0:=[("self",.ptr)]) (by kernel_rfl) (by walk_at "o") ?_
 try dsimp only [ai,ak]
 iterate 12 walk_at "w"
 let base:List UInt8→List (Str×Loc):=fun pre=>[("self",.ptr),lo "found" (.str (eq (fL pre).1)),lo "kept" (.int ((fL pre).2:Nat)),lo "is_quoted" (.bool false)]
 have h0:([("self",.ptr),("found",.d (.str "")),("kept",.d (.int 0)),("is_quoted",.d (.bool false))]:List (Str×Loc))=base []:=by
  try dsimp only [base]
  rw [show (fL []).1= [] from rfl,lW];rfl
 refine aa (iC (lF (fun pre post S=>∃r' tl,(Tl ["one"] tl∧S=bl (base pre++tl) O (i+pre.length) r' l)∧O.drop (i+pre.length)=post++10::T) w hw ⟨r,[],⟨.inl rfl,congrArg (fun ρ=>bl ρ O i r l) h0⟩,h⟩ (fun pre x post S e hS=> ?_) (fun m S hS=> ?_)))
 ·obtain ⟨r',tl,⟨ht,rfl⟩,hd⟩:=hS
  obtain ⟨y1,y2,y3,y4,y5⟩:=hb x (by rw [e];simp);have D8:pre.length≤1000:=by rw [e,List.length_append] at hw;lia
  obtain ⟨nh,AL⟩:=xR pre ([],0) (Nat.le_refl _);change (fL pre).1.length≤0+pre.length at nh
  have dJ:fL (pre++ [x])=fG (fL pre) x:=by unfold fL;rw [List.foldl_append];rfl
  have Df:=(aJ hd).2.2;have L7:O.drop (i+ (pre++ [x]).length)=post++10::T:=by rw [List.length_append,List.length_singleton, ←Nat.add_assoc];exact Df
  have RA:i+ (pre++ [x]).length=i+pre.length+1:=by rw [List.length_append];rfl
  try dsimp only [base,List.cons_append,List.nil_append]
  rw [dJ];rw [RA] at L7 ⊢;clear Df AL;generalize fL pre=sg at nh ⊢;obtain ⟨f,kp⟩:=sg;dsimp only at nh ⊢;refine cV rfl (aj rfl ⟨_,rfl,rfl, ?_⟩);refine aa (bX rfl rfl rfl (by decide+kernel) (bK hO hd rfl (by walk_at "l") ?_));unfold bl;walk_at "w"
  refine aa (bC (aF rfl (af (by decide+kernel) (by walk_at "l") ⟨rfl,aj rfl ⟨_,eq_int, ?_⟩⟩)));refine bD y1 ?_;refine aO (aa (bC (bu (bj (fO (cV rfl (af (by decide+kernel) (by walk_at "l") ⟨_,rfl, ?_⟩)))))));refine eC rfl ?_;refine bj (aF rfl (af (by decide+kernel) (by walk_at "l") ⟨by kernel_rfl,eT (by decide+kernel) (by walk_at "l") (by walk_at "l") (d:=.tup [.int 32,.int 9,.int 10,.int 13]) (by kernel_rfl) ⟨_,jA x, ?_⟩⟩));unfold fG
  cases hw:Dc x.toNat with
  |true=>
   refine eC rfl ?_;refine dB ?_;refine eC rfl ?_;refine aa (dT (O:=O) (i:=i+pre.length) (r:=r') (l:=l) hO hd rfl (by walk_at "l") fun r2=> ?_);refine aa (bC (aF rfl (af (by decide+kernel) (by walk_at "l") ⟨rfl,aj rfl ⟨_,rfl, ?_⟩⟩)))
   cases f with
   |nil=>
    rw [lW,if_neg (by decide+kernel)];refine aO (aa (Mp .cont _ rfl ⟨fun v e=>(nomatch e),r2,[lo "one" (.int (bi x))],⟨.inr rfl, ?_⟩,L7⟩));rw [←lW];rfl
   |cons f0 fr=>
    rw [Bv (w:=f0::fr) (by simp),if_pos (by rfl)];refine aa (bX rfl rfl rfl (by decide+kernel) (eP (af (by decide+kernel) (by walk_at "l") (iT rfl rfl (by decide+kernel) (by walk_at "l") (by walk_at "l") (id:="chr") (by kernel_rfl) (aI rfl (af (by decide+kernel) (by walk_at "l") (bn ⟨_,_,rfl,lR x,_,uA (by lia), ?_⟩)))))));unfold bl;walk_at "w"
    refine aO (aa (Mp .cont _ rfl ⟨fun v e=>(nomatch e),r2,[lo "one" (.int (bi x))],⟨.inr rfl, ?_⟩,L7⟩));rfl
  |false=>
   refine bD rfl (bD rfl ?_);refine aO (aa (bC (bu (bj (fO (cV rfl (af (by decide+kernel) (by walk_at "l") ⟨_,rfl, ?_⟩)))))));refine eC rfl ?_;refine bj (bu (dw (aF rfl (af (by decide+kernel) (by walk_at "l") ⟨rfl,aj rfl ⟨_,eq_int, ?_⟩⟩))));refine bD y2 ?_;refine dw (aF rfl (af (by decide+kernel) (by walk_at "l") ⟨rfl,aj rfl ⟨_,eq_int, ?_⟩⟩));refine bD y3 ?_;refine dB ?_;refine bD rfl (bD rfl ?_);refine aO (aa (dT (O:=O) (i:=i+pre.length) (r:=r') (l:=l) hO hd rfl (by walk_at "l") fun r2=> ?_));refine aa (bC (aF rfl (af (by decide+kernel) (by walk_at "l") ⟨rfl,aj rfl ⟨_,eq_int, ?_⟩⟩)));refine bD y4 ?_;refine aa (bC (aF rfl (af (by decide+kernel) (by walk_at "l") ⟨rfl,aj rfl ⟨_,eq_int, ?_⟩⟩)));refine bD y5 ?_;refine aa (bX rfl rfl rfl (by decide+kernel) (eP (af (by decide+kernel) (by walk_at "l") (iT rfl rfl (by decide+kernel) (by walk_at "l") (by walk_at "l") (id:="chr") (by kernel_rfl) (aI rfl (af (by decide+kernel) (by walk_at "l") (bn ⟨_,_,rfl,lR x,_,uA (by lia), ?_⟩)))))));unfold bl;walk_at "w"
   iterate 2 refine aO ?_
   refine aa (bX rfl rfl rfl (by decide+kernel) (iT rfl rfl (by decide+kernel) (by walk_at "l") (by walk_at "l") (id:="len") (by kernel_rfl) (aI rfl (af (by decide+kernel) (by walk_at "l") (bn ⟨_,_,rfl,len_str (by rw [me,List.length_append,List.length_singleton];lia), ?_⟩)))));walk_at "w"
   refine aO ⟨fun v e=>(nomatch e),r2,[lo "one" (.int (bi x))],⟨.inr rfl, ?_⟩,L7⟩;rw [me,List.length_append];rfl
 ·obtain ⟨r',tl,⟨ht,rfl⟩,hd⟩:=hS
  obtain ⟨nh,AL⟩:=xR w ([],0) (Nat.le_refl _);change (fL w).1.length≤0+w.length at nh
  change (fL w).2≤(fL w).1.length at AL
  unfold ug
  try dsimp only [base,List.cons_append,List.nil_append]
  refine gC (cV rfl (aj rfl ⟨_,rfl, ?_⟩));refine eC rfl ?_;refine aa (bX rfl rfl rfl (by decide+kernel) (bK hO hd rfl (by walk_at "l") ?_));unfold bl;walk_at "w"
  refine aa (bC (aF rfl (af (by decide+kernel) (by walk_at "l") ⟨rfl,aj rfl ⟨_,eq_int, ?_⟩⟩)));rw [if_pos (by decide)];refine aa (bC (cV rfl (af (by decide+kernel) (by walk_at "l") ⟨_,rfl, ?_⟩)));refine bD rfl ?_;refine aO (aa (dT (O:=O) (i:=i+w.length) (r:=r') (l:=l) hO hd rfl (by walk_at "l") fun r2=> ?_));unfold bl;refine aa (cC (uv rfl ?_));iterate 4 walk_at "w"
  exact ⟨none,_,_,rfl,fT (by lia),if_pos (by rw [me];have:sizeLine=16777216:=rfl;lia),rfl,r2,rfl⟩
theorem yU{n:Nat}(hO:gT O)(v:Option (List UInt8))(hw: ∀w,v=some w→w.length≤1000∧∀b∈w,lH b)(h:O.drop i= (match v with|none=>[]|some w=>32::61::w)++10::T):
  ∃r',run (n+5) 285 [.ptr] (some (iQ O i r l))=some (.ok (match v with|none=>.none|some w=>.str (ug w)),some (iQ O (i+ (match v with|none=>[]|some w=>32::61::w:List UInt8).length+1) r' l)):=by
 refine oM (F:=⟨bB 22 10,[]⟩) (by kernel_rfl) rfl (by kernel_rfl) (ρ0:=[("self",.ptr)]) (by kernel_rfl) (by walk_at "o") ?_
 try dsimp only [ai,ak]
 cases v with
 |none=>
  dsimp only at h ⊢;refine aa (oL rfl rfl rfl (sY hO [] (by decide) (fun b m=>nomatch m) h rfl rfl rfl (by walk_at "l") fun r1=> ?_));refine aa (bC (aF rfl (bK hO h rfl (by walk_at "l") ⟨rfl,aj rfl ⟨_,eq_int, ?_⟩⟩)));rw [if_pos (by decide)];refine aa (dT hO h rfl (by walk_at "l") fun r2=> ?_);unfold bl;iterate 3 walk_at "w"
  exact ⟨rfl,r2,rfl⟩
 |some w=>
  obtain ⟨Ra,Q9⟩:=hw w rfl;dsimp only at h ⊢;have h1:=(aJ h).2.2;have h2:=(aJ h1).2.2;refine aa (oL rfl rfl rfl (sY hO [32] (by decide) (by intro b m;rw [List.mem_singleton.mp m];rfl) h rfl rfl rfl (by walk_at "l") fun r1=> ?_));refine aa (bC (aF rfl (bK hO h1 rfl (by walk_at "l") ⟨rfl,aj rfl ⟨_,eq_int, ?_⟩⟩)));rw [if_neg (by decide)];refine aO (aa (bC (aF rfl (bK hO h1 rfl (by walk_at "l") ⟨rfl,aj rfl ⟨_,ne_int, ?_⟩⟩))));rw [if_neg (by decide)];refine aO (aa (dT hO h1 rfl (by walk_at "l") fun r2=> ?_));obtain ⟨r4,h4⟩:=zc (n:=n) (r:=r2) (l:=l) hO w Ra Q9 h2;refine aa (cC (eg rfl rfl (by decide+kernel) (by walk_at "l") rfl (f:=292) (by kernel_rfl) (by kernel_rfl) (bn ⟨_,_,_,rfl,h4,rfl,r4, ?_⟩)));rw [show i+ (32::61::w).length+1=i+1+1+w.length+1 from by simp only [List.length_cons];lia]
end
theorem xZ{n:Nat}(a b:D):run (n+1) 173 [.ptr,.d a,.d b] (some (.inst 197 []))=some (.ok .none,some (.inst 197 [("word",.d a),("raw",.d b),("section",.d (dS "")),("name",.d (dS "")),("value",.d .none),("spelt",.d (dS ""))])):=by kernel_rfl
theorem E9{n:Nat}(a b c:D):run (n+1) 173 [.ptr,.d a,.d b,.d c] (some (.inst 197 []))=some (.ok .none,some (.inst 197 [("word",.d a),("raw",.d b),("section",.d c),("name",.d (dS "")),("value",.d .none),("spelt",.d (dS ""))])):=by kernel_rfl
theorem E8{n:Nat}(a b c d e f:D):run (n+1) 173 [.ptr,.d a,.d b,.d c,.d d,.d e,.d f] (some (.inst 197 []))=some (.ok .none,some (.inst 197 [("word",.d a),("raw",.d b),("section",.d c),("name",.d d),("value",.d e),("spelt",.d f)])):=by kernel_rfl
theorem vW{n:Nat}(O:List UInt8):run (n+1) 215 [.ptr,.d (.bytes O)] (some (.inst 302 []))=some (.ok .none,some (iQ O 0 1 [])):=by unfold iQ AF;kernel_rfl
theorem qY{n i:Nat}(h:i≤n):clipAt n (i:Int)=i:=by
 unfold clipAt;rw [if_neg (Int.not_lt.mpr (Int.natCast_nonneg i))];rw [Int.min_eq_left (Int.ofNat_le.mpr h),Int.max_eq_right (Int.natCast_nonneg i)];rfl
theorem wI{O u T:List UInt8}{s i:Nat}(h:O.drop s=u++T)(hi:i=s+u.length)(hO:O.length≤100000):jZ (.bytes O) (some (s:Int)) (some (i:Int))=some (.bytes u):=by
 have h1:=congrArg List.length h;rw [List.length_drop,List.length_append] at h1;show (if O.length≤sizeLine then some (D.bytes (i6 O (some (s:Int)) (some (i:Int)))) else none)=_;rw [if_pos (Nat.le_trans hO (by decide))];unfold i6
 try dsimp only [Option.elim]
 rcases Nat.lt_or_ge s O.length with q|q
 ·have wY:s+u.length≤O.length:=Nat.add_comm s u.length▸Nat.le_sub_iff_add_le (Nat.le_of_lt q) |>.mp (h1▸Nat.le_add_right _ _)
  rw [qY (Nat.le_of_lt q),qY (hi▸wY),h,hi,Nat.add_sub_cancel_left,List.take_left]
 ·rw [Nat.sub_eq_zero_of_le q] at h1
  obtain ⟨e1,e2⟩:=Nat.add_eq_zero_iff.mp h1.symm;obtain rfl:=List.length_eq_zero_iff.mp e1;rw [hi,List.length_nil,Nat.add_zero,Nat.sub_self,List.take_zero]
theorem ne_bytes{x y:List UInt8}:gR .NotEq (.bytes x) (.bytes y)=some (!(x==y)):=rfl
theorem Ca{n:Nat}{O raw:List UInt8}{i r:Nat}{l:List D}{word:Str}{sec name value fg:D}(hl:l.length≤1000):run (n+1) 250 [.ptr,.d (ca word raw sec name value fg)] (some (iQ O i r l))=some (.ok (.int i),some (iQ O i r (if raw== [] then l else l++ [ca word raw sec name value fg]))):=by
 refine bo (F:=⟨bB 22 5,[]⟩) (by kernel_rfl) rfl (by kernel_rfl) (ρ0:=[("self",.ptr),("piece",.d (ca word raw sec name value fg))]) (by kernel_rfl) (by walk_at "o") ?_
 try dsimp only [ai,ak]
 refine aa (bC (aF rfl (oX rfl (af (by decide+kernel) (by walk_at "l") ⟨197,_,.bytes raw,rfl,by kernel_rfl,by kernel_rfl,rfl,aj rfl ⟨_,ne_bytes, ?_⟩⟩))))
 cases raw== [] with
 |true=>
  rw [if_neg (by simp),if_pos rfl];exact aO (aa (cC (pZ (ρ:=[("self",.ptr),("piece",.d (ca word raw sec name value fg))]) (O:=O) (i:=i) (r:=r) (l:=l) (by walk_at "l") ⟨rfl,rfl⟩)))
 |false=>
  rw [if_pos (by rfl),if_neg (by simp)];refine aa (E2 (x:="self") (f:="pieces") (y:="piece") (c:=302) (fs:=AF O i r l) (fs':=AF O i r (l++ [ca word raw sec name value fg])) (l:=l) rfl rfl (by decide+kernel) (by decide+kernel) (by walk_at "l") (by walk_at "l") rfl (by kernel_rfl) (by kernel_rfl) (Nat.le_trans hl (by decide)) (by kernel_rfl) ?_);exact aO (aa (cC (pZ (ρ:=[("self",.ptr),("piece",.d (ca word raw sec name value fg))]) (O:=O) (i:=i) (r:=r) (l:=l++ [ca word raw sec name value fg]) (by walk_at "l") ⟨rfl,rfl⟩)))
inductive Lu(Q:D→St→Prop)(vs:List V)(S2:St):Prop where
 |mk (ρ:List (Str×Loc)) (O raw:List UInt8) (i r:Nat) (l:List D) (word:Str) (sec name value fg:D) (h1:vs= [.d (ca word raw sec name value fg)]) (h2:S2=bl ρ O i r l) (h3:l.length≤1000) (hQ:Q (.int (i:Nat)) (bl ρ O i r (if raw== [] then l else l++ [ca word raw sec name value fg])))
theorem oW{n k:Nat}{ns:ab}{Q:D→St→Prop}{xp ap p:Pos}{args:List Expr}{S:St}(hb:(decide (args.length≤8)&&cF (.Attribute (.Name "self" xp) "keep" ap) p&&args.all aE)=true)(hs:S.ρ.lookup ("self":Str)=some .ptr){O0:List UInt8}{i0 r0:Nat}{l0:List D}(h0:S.σ=some (iQ O0 i0 r0 l0))(hh:cM ns (.Call (.Attribute (.Name "self" xp) "keep" ap) args [] p) S=none)
  (h:WL (ah (run (n+1)) (k+1)) ns args S (Lu Q)):WD (ah (run (n+1)) (k+2)) ns (.Call (.Attribute (.Name "self" xp) "keep" ap) args [] p) S Q:=by
 obtain ⟨vs,S2,h1,ρ,O,raw,i,r,l,word,sec,name,value,fg,rfl,rfl,h2,hQ⟩:=h;exact eg hh hb (by decide+kernel) hs h0 (f:=250) (by kernel_rfl) (by kernel_rfl) ⟨_,_,h1,iQ O i r l,.int i,iQ O i r (if raw== [] then l else l++ [ca word raw sec name value fg]),rfl,Ca h2,hQ⟩
theorem BZ{b:UInt8}(h:Gc b.toNat=true):(bi b==10)=false∧Dc b.toNat=false∧(bi b==35)=false∧(bi b==59)=false∧(bi b==91)=false:=by
 have h1:=q8 (p:=fun n=> !Gc n|| (!((n:Int)==10)&& !Dc n&& !((n:Int)==35)&& !((n:Int)==59)&& !((n:Int)==91))) (by kernel_rfl) b;rw [h] at h1;simp only [Bool.not_true,Bool.false_or,Bool.and_eq_true,Bool.not_eq_true'] at h1;exact ⟨h1.1.1.1.1,h1.1.1.1.2,h1.1.1.2,h1.1.2,h1.2⟩
structure RB where
 w:List UInt8
 t:Option (List UInt8)
 s0:UInt8
 s:List UInt8
 v:Option (List UInt8)
 ln:Str
noncomputable def rB:Option (List UInt8)→List UInt8
 |none=>[]
 |some u=>32::61::u
noncomputable def rD:Option (List UInt8)→D
 |none=>.none
 |some u=>.str (ug u)
noncomputable def RB.h(x:RB):List UInt8:=91:: (x.w++ew x.t)
noncomputable def RB.e(x:RB):List UInt8:=9:: (x.s0::x.s++ (rB x.v++ [10]))
noncomputable def RB.bytes(x:RB):List UInt8:=x.h++ (10::x.e)
noncomputable def RB.pcs(x:RB):List D:=[ca "section" x.h (.str (gI x.w x.t)) (dS "") .none (dS ""),ca "gap" [10] (dS "") (dS "") .none (dS ""),ca "value" x.e (.str (gI x.w x.t)) (.str x.ln) (rD x.v) (.str (eq (x.s0::x.s)))]
structure RB.Ok(x:RB):Prop where
 w0:x.w≠[]
 wl:x.w.length≤1000
 ws: ∀b∈x.w,rT b.toNat=true
 t: ∀q,x.t=some q→q.length≤1000∧∀b∈q,ut b
 s0:Gc x.s0.toNat=true
 sl:(x.s0::x.s).length≤1000
 ss: ∀b∈x.s0::x.s,rT b.toNat=true
 v: ∀u,x.v=some u→u.length≤1000∧∀b∈u,lH b
 ln:kP (eq (x.s0::x.s)) "lower" []=some (.str x.ln)
theorem SX{O:List UInt8}(h:O= []∨∃O',O=91::O'):(i6 O none (some 3)== [239,187,191])=false:=by
 unfold i6
 try dsimp only [Option.elim]
 rw [List.drop_zero];rcases h with rfl|⟨O',rfl⟩
 ·rw [List.take_nil];rfl
 ·cases clipAt (91::O').length 3 - 0 with
  |zero=>rfl
  |succ m=>rfl
theorem EM{ι:Type}{r:ba}{ns:ab}{t:Expr}{body:List Stmt}{S:St}{QX:Fl→St→Prop}(rel:List ι→List ι→St→Prop)(xs:List ι)(aP:xs.length≤1000)(h0:rel [] xs S)
  (h: ∀pre x post S,xs=pre++x::post→rel pre (x::post) S→∀m,(∀S',rel (pre++ [x]) post S'→WW r ns t body m S' QX)→WW r ns t body (m+1+1+1+1) S QX) (hQ: ∀m S',rel xs [] S'→WW r ns t body (m+1) S' QX):WW r ns t body df S QX:=by
 have key: ∀(post pre:List ι),xs=pre++post→∀m S,rel pre post S→WW r ns t body (4*post.length+ (m+1)) S QX:=by
  intro post
  induction post with
  |nil=>intro pre e m S hS;rw [List.append_nil] at e;rw [List.length_nil,Nat.mul_zero,Nat.zero_add];exact hQ m S (e▸hS)
  |cons x rest ih=>
   intro pre e m S hS;rw [List.length_cons,show 4* (rest.length+1)+ (m+1)=4*rest.length+ (m+1)+1+1+1+1 from Nat.add_right_comm (4*rest.length) 4 (m+1)];exact h pre x rest S e hS _ fun S' Nh=>ih (pre++ [x]) (by rw [e,List.append_assoc];rfl) m S' Nh
 have e:df=4*xs.length+ ((99999 - 4*xs.length)+1):=(congrArg (· +1) (Nat.add_sub_of_le (Nat.le_trans (Nat.mul_le_mul_left 4 aP) (by decide:4*1000≤99999)))).symm;rw [e];exact key xs [] rfl _ S h0
theorem Hz{n:Nat}{a:Addr}{F:dj}{st:Stmt}{args:List V}{σ:Option Slot}{d:D}{ρ0:List (Str×Loc)}(hF:lC.lookup a=some F)(lx:(a==857)=false)(vn:gS F args.length=true)(hρ:ej F args=ρ0)(em:F.st=st)
  (h:WX (ah (run n) 60) (ai st).names (ak st) ⟨ρ0,σ⟩ fun f S=>gY f=d∧∃o,S.σ=some o): ∃o,run (n+1) a args σ=some (.ok d,some o):=by
 obtain ⟨f,S,e1,e2,o,e3⟩:=h;exact ⟨o,bo hF lx vn hρ em ⟨f,_,e1,e2,e3⟩⟩
structure Qf(ρ:List (Str×Loc))(st:Nat):Prop where
 self:ρ.lookup ("self":Str)=some .ptr
 start:ρ.lookup ("start":Str)=some (.d (.int (st:Nat)))
 g1:ρ.lookup ("ConfigPiece":Str)=none
 g2:ρ.lookup ("CONFIG_WHITE":Str)=none
 g3:ρ.lookup ("config_is_letter":Str)=none
theorem vE{n:Nat}{O T:List UInt8}{i r:Nat}{l:List D}(hO:gT O)(v:Option (List UInt8))(hw: ∀w,v=some w→w.length≤1000∧∀b∈w,lH b)(h:O.drop i=rB v++10::T): ∃r',run (n+5) 285 [.ptr] (some (iQ O i r l))=some (.ok (rD v),some (iQ O (i+ (rB v).length+1) r' l)):=by
 have h1:=yU (n:=n) (r:=r) (l:=l) hO v hw (T:=T) (i:=i) (by cases v<;>exact h)
 cases v<;>exact h1
theorem Bj(v:Option (List UInt8))(T:List UInt8): ∃b T',rB v++10::T=b::T'∧rT b.toNat=false:=by
 cases v with
 |none=>exact ⟨10,T,rfl,rfl⟩
 |some u=>exact ⟨32,_,rfl,rfl⟩
theorem uO(l:List RB):(l.flatMap RB.pcs).length=3*l.length:=by
 induction l with
 |nil=>rfl
 |cons x r ih=>rw [List.flatMap_cons,List.length_append,ih,List.length_cons];show 3+_=_;lia
theorem Bb{fn:au}{k:Nat}{ns:ab}{Q:D→St→Prop}{ρ:List (Str×Loc)}{O u T:List UInt8}{st i r:Nat}{l:List D}{p1 p2 p3 p4 p5 p6 p7:Pos}(hd:O.drop st=u++T)(hi:i=st+u.length)(hO:O.length≤100000)(h1:st≤100000)(h2:i≤100000)(hs:ρ.lookup ("self":Str)=some .ptr)(ht:ρ.lookup ("start":Str)=some (.d (.int (st:Nat))))(hQ:Q (.bytes u) (bl ρ O i r l)):
  WD (ah fn (k+3)) ns (.Subscript (.Attribute (.Name "self" p1) "octets" p2) (.Slice (some (.Name "start" p3)) (some (.Attribute (.Name "self" p4) "at" p5)) none p6) p7) (bl ρ O i r l) Q:=
 uv rfl (qh hs (oS (af (by decide+kernel) ht (oS (pZ hs ⟨some (st:Int),some (i:Int),_,fT (Nat.le_trans h1 (by decide)),fT (Nat.le_trans h2 (by decide)),wI hd hi hO,hQ⟩)))))
theorem xC{x:UInt8}{r:List UInt8}{a b:List D}:(if (x::r)== [] then a else b)=b:=if_neg (by simp)
theorem BJ{n:Nat}(rows:List RB)(hr: ∀x∈rows,x.Ok)(aP:rows.length≤100)(hO:gT (rows.flatMap RB.bytes)): ∃o,run (n+7) 257 [.ptr] (some (iQ (rows.flatMap RB.bytes) 0 1 []))=some (.ok (.lst (rows.flatMap RB.pcs)),some o):=by
 have hb:rows.flatMap RB.bytes= []∨∃O',rows.flatMap RB.bytes=91::O':=by
  cases rows with
  |nil=>exact .inl rfl
  |cons x r=>exact .inr ⟨_,rfl⟩
 generalize Sp:rows.flatMap RB.bytes=O at hO hb ⊢;refine Hz (F:=⟨bB 22 6,[]⟩) (by kernel_rfl) rfl (by kernel_rfl) (ρ0:=[("self",.ptr)]) (by kernel_rfl) (by walk_at "o") ?_
 try dsimp only [ai,ak]
 iterate 8 walk_at "w"
 refine aa (bC (aF rfl (uv rfl (qh (ρ:=[("self",.ptr),("section",.d .none),("start",.d (.int 0))]) (O:=O) (i:=0) (r:=1) (l:=[]) (by walk_at "l") (x9 (oS (aj rfl ⟨none,some 3,_,rfl,fT (m:=3) (by decide),if_pos (Nat.le_trans hO.1 (by decide)),rfl,aj rfl ⟨_,rfl, ?_⟩⟩)))))));rw [SX hb,if_neg (by simp)];refine aO ?_;have R0:Qf [("self",.ptr),("section",.d .none),("start",.d (.int 0))] 0:=⟨rfl,rfl,rfl,rfl,rfl⟩;revert R0;generalize ([("self",.ptr),("section",.d .none),("start",.d (.int 0))]:List (Str×Loc))=ρ0;intro R0;refine aa (iC (EM (fun pre post S=>∃ρ i r,S=bl ρ O i r (pre.flatMap RB.pcs)∧Qf ρ i∧i≤O.length∧O.drop i=post.flatMap RB.bytes) rows (Nat.le_trans aP (by decide)) ⟨ρ0,0,1,rfl,R0,Nat.zero_le _,by rw [Sp];rfl⟩ (fun pre x post S e hS m hW=> ?_) (fun m S hS=> ?_)))
 ·have hx:=hr x (by rw [e];simp)
  have D8:(pre.flatMap RB.pcs).length≤300:=by rw [uO];rw [e,List.length_append] at aP;lia
  have Pz:(pre++ [x]).flatMap RB.pcs=pre.flatMap RB.pcs++x.pcs:=by rw [List.flatMap_append,List.flatMap_cons,List.flatMap_nil,List.append_nil]
  clear R0;obtain ⟨ρ,i,r,rfl,R,_,hd⟩:=hS;rw [Pz] at hW;generalize pre.flatMap RB.pcs=l at D8 hW ⊢;generalize hT:post.flatMap RB.bytes=T at hW;rw [List.flatMap_cons,hT] at hd;clear Pz e hT;have Ec:O.drop i=x.h++ (10::9:: (x.s0::x.s++ (rB x.v++10::T))):=by rw [hd];unfold RB.bytes RB.e;simp
  have rX:=mu Ec;have Df:=(aJ rX).2.2;have L8:=(aJ Df).2.2;have PT:=mu L8;have M5:O.drop (i+x.h.length+1+1+ (x.s0::x.s).length+ (rB x.v).length+1)=T:=(aJ (mu PT)).2.2;have M4:O.drop i=91:: (x.w++ (ew x.t++ (10::9:: (x.s0::x.s++ (rB x.v++10::T))))):=by rw [Ec];unfold RB.h;simp
  have PS:O.drop (i+x.h.length+1)=x.e++T:=by rw [Df];unfold RB.e;simp
  have RM:x.h.length=1+x.w.length+ (ew x.t).length:=by unfold RB.h;rw [List.length_cons,List.length_append];lia
  have TX:x.e.length=1+ (x.s0::x.s).length+ (rB x.v).length+1:=by unfold RB.e;rw [List.length_cons,List.length_append,List.length_append];show _+ (_+1)+1=_;lia
  obtain ⟨b,T',Rg,Rk⟩:=Bj x.v T;have nh:=(aJ M4).1;have AL:=(aJ rX).1;have RD:=(aJ Df).1;have De:=(aJ (show O.drop (i+x.h.length+1+1)=x.s0:: (x.s++ (rB x.v++10::T)) from L8)).1;have GH:=hO.1;have R1:=R.self;have R2:=R.start;have R3:=R.g1;have R4:=R.g2;have R5:=R.g3;obtain ⟨ra,ha⟩:=wq (n:=n) (r:=r) (l:=l) hO x.w x.t hx.wl hx.w0 hx.ws hx.t M4;rw [←RM] at ha;refine gC (fO (cV rfl (gb hO rfl (by walk_at "l") ⟨_,rfl, ?_⟩)));rw [if_pos (by simpa using nh)];refine aa (bX rfl rfl rfl (by decide+kernel) (bK hO M4 rfl (by walk_at "l") ?_));unfold bl;walk_at "w"
  refine aa (bC (aF rfl (af (by decide+kernel) (by walk_at "l") ⟨rfl,aj rfl ⟨_,eq_int, ?_⟩⟩)));rw [if_neg (by decide)];refine aa (bC (aF rfl (af (by decide+kernel) (by walk_at "l") ⟨by kernel_rfl,eT (by decide+kernel) (by walk_at "l") (by walk_at "l") (d:=.tup [.int 32,.int 9,.int 10,.int 13]) (by kernel_rfl) ⟨_,jA 91, ?_⟩⟩)));rw [if_neg (by decide)];refine aa (bC (bu (dw (aF rfl (af (by decide+kernel) (by walk_at "l") ⟨rfl,aj rfl ⟨_,eq_int, ?_⟩⟩)))));rw [if_neg (by decide)];refine dw (aF rfl (af (by decide+kernel) (by walk_at "l") ⟨rfl,aj rfl ⟨_,eq_int, ?_⟩⟩));rw [if_neg (by decide)];refine dB ?_;refine bD rfl ?_;refine aa (bC (aF rfl (af (by decide+kernel) (by walk_at "l") ⟨rfl,aj rfl ⟨_,eq_int, ?_⟩⟩)));rw [if_pos (by decide)];refine aa (bX rfl rfl rfl (by decide+kernel) (eg rfl rfl (by decide+kernel) (by walk_at "l") rfl (f:=264) (by kernel_rfl) (by kernel_rfl) (bn ⟨_,_,_,rfl,ha, ?_⟩)));walk_at "w"
  refine aa (bX rfl rfl rfl (by decide+kernel) (oW rfl (by walk_at "l") rfl rfl (aI rfl (kG rfl rfl (by decide+kernel) (by walk_at "l") (by walk_at "l") (a:=197) (by kernel_rfl) (c:=⟨173,[],["word","raw","section","name","value","spelt"]⟩) (by kernel_rfl) ?_))));refine aI rfl (aj rfl (aI rfl (Bb (O:=O) (i:=i+x.h.length) (r:=ra) (l:=l) Ec rfl GH (by lia) (by lia) (by walk_at "l") (by walk_at "l") ?_)));unfold bl;iterate 3 walk_at "w"
  refine ⟨rfl,_,E9 _ _ _, ?_⟩;walk_at "w"
  refine ⟨_,O,x.h,i+x.h.length,ra,l,"section",.str (gI x.w x.t),dS "",.none,dS "",rfl,rfl,by lia, ?_⟩;rw [show x.h=91:: (x.w++ew x.t) from rfl,xC, ←show x.h=91:: (x.w++ew x.t) from rfl];walk_at "w"
  repeat refine aO ?_
  have G0:l++x.pcs=l++ [ca "section" x.h (.str (gI x.w x.t)) (dS "") .none (dS "")]++ [ca "gap" [10] (dS "") (dS "") .none (dS "")]++ [ca "value" x.e (.str (gI x.w x.t)) (.str x.ln) (rD x.v) (.str (eq (x.s0::x.s)))]:=by
   rw [List.append_assoc,List.append_assoc];rfl
  rw [G0] at hW;clear G0;have Gz:(l++ [ca "section" x.h (.str (gI x.w x.t)) (dS "") .none (dS "")]).length≤301:=by rw [List.length_append];show _+1≤_;lia
  generalize l++ [ca "section" x.h (.str (gI x.w x.t)) (dS "") .none (dS "")]=l1 at Gz hW ⊢;refine gC (fO (cV rfl (gb (O:=O) (i:=i+x.h.length) (r:=ra) (l:=l1) hO rfl (by walk_at "l") ⟨_,rfl, ?_⟩)));rw [if_pos (by simpa using AL)];refine aa (bX rfl rfl rfl (by decide+kernel) (bK hO rX rfl (by walk_at "l") ?_));unfold bl;walk_at "w"
  refine aa (bC (aF rfl (af (by decide+kernel) (by walk_at "l") ⟨rfl,aj rfl ⟨_,eq_int, ?_⟩⟩)));rw [if_pos (by decide)];refine aa (dT (O:=O) (i:=i+x.h.length) (r:=ra) (l:=l1) hO rX rfl (by walk_at "l") fun rb=> ?_);refine aa (bX rfl rfl rfl (by decide+kernel) (oW rfl (by walk_at "l") rfl rfl (aI rfl (kG rfl rfl (by decide+kernel) (by walk_at "l") (by walk_at "l") (a:=197) (by kernel_rfl) (c:=⟨173,[],["word","raw","section","name","value","spelt"]⟩) (by kernel_rfl) ?_))));refine aI rfl (aj rfl (aI rfl (Bb (u:=[10]) (O:=O) (i:=i+x.h.length+1) (r:=rb) (l:=l1) rX rfl GH (by lia) (by lia) (by walk_at "l") (by walk_at "l") (bn ?_))));refine ⟨rfl,_,xZ _ _, ?_⟩;walk_at "w"
  refine ⟨_,O,[10],i+x.h.length+1,rb,l1,"gap",dS "",dS "",.none,dS "",rfl,rfl,by lia, ?_⟩;rw [xC];walk_at "w"
  repeat refine aO ?_
  have Gy:(l1++ [ca "gap" [10] (dS "") (dS "") .none (dS "")]).length≤302:=by rw [List.length_append];show _+1≤_;lia
  generalize l1++ [ca "gap" [10] (dS "") (dS "") .none (dS "")]=l2 at Gy hW ⊢;refine gC (fO (cV rfl (gb (O:=O) (i:=i+x.h.length+1) (r:=rb) (l:=l2) hO rfl (by walk_at "l") ⟨_,rfl, ?_⟩)));rw [if_pos (by simpa using RD)];refine aa (bX rfl rfl rfl (by decide+kernel) (bK hO Df rfl (by walk_at "l") ?_));unfold bl;walk_at "w"
  refine aa (bC (aF rfl (af (by decide+kernel) (by walk_at "l") ⟨rfl,aj rfl ⟨_,eq_int, ?_⟩⟩)));rw [if_neg (by decide)];refine aa (bC (aF rfl (af (by decide+kernel) (by walk_at "l") ⟨by kernel_rfl,eT (by decide+kernel) (by walk_at "l") (by walk_at "l") (d:=.tup [.int 32,.int 9,.int 10,.int 13]) (by kernel_rfl) ⟨_,jA 9, ?_⟩⟩)));rw [if_pos (by decide)];refine aa (dT (O:=O) (i:=i+x.h.length+1) (r:=rb) (l:=l2) hO Df rfl (by walk_at "l") fun rc=> ?_)
  repeat refine aO ?_
  obtain ⟨y1,y2,y3,y4,y5⟩:=BZ hx.s0;have Ol:O.drop (i+x.h.length+1+1)=x.s0:: (x.s++ (rB x.v++10::T)):=L8;refine gC (fO (cV rfl (gb (O:=O) (i:=i+x.h.length+1+1) (r:=rc) (l:=l2) hO rfl (by walk_at "l") ⟨_,rfl, ?_⟩)));rw [if_pos (by simpa using De)];refine aa (bX rfl rfl rfl (by decide+kernel) (bK hO Ol rfl (by walk_at "l") ?_));unfold bl;walk_at "w"
  refine aa (bC (aF rfl (af (by decide+kernel) (by walk_at "l") ⟨rfl,aj rfl ⟨_,eq_int, ?_⟩⟩)));refine bD y1 ?_;refine aa (bC (aF rfl (af (by decide+kernel) (by walk_at "l") ⟨by kernel_rfl,eT (by decide+kernel) (by walk_at "l") (by walk_at "l") (d:=.tup [.int 32,.int 9,.int 10,.int 13]) (by kernel_rfl) ⟨_,jA x.s0, ?_⟩⟩)));refine bD y2 ?_;refine aa (bC (bu (dw (aF rfl (af (by decide+kernel) (by walk_at "l") ⟨rfl,aj rfl ⟨_,eq_int, ?_⟩⟩)))));refine bD y3 ?_;refine dw (aF rfl (af (by decide+kernel) (by walk_at "l") ⟨rfl,aj rfl ⟨_,eq_int, ?_⟩⟩));refine bD y4 ?_;refine dB ?_;refine bD rfl ?_;refine aa (bC (aF rfl (af (by decide+kernel) (by walk_at "l") ⟨rfl,aj rfl ⟨_,eq_int, ?_⟩⟩)));refine bD y5 ?_;refine aa (bC (bu (bj (cV rfl (fZ rfl rfl (by decide+kernel) (by walk_at "l") (by walk_at "l") (a:=80) (by kernel_rfl) (by kernel_rfl) (aI rfl (af (by decide+kernel) (by walk_at "l") (bn ⟨rfl,_,wg x.s0,_,rfl, ?_⟩))))))));rw [hx.s0,if_pos rfl];refine bj (aF rfl (af (by decide+kernel) (by walk_at "l") ⟨rfl,aj rfl ⟨true,rfl, ?_⟩⟩));refine eC rfl ?_;refine dB ?_;refine eC rfl ?_;obtain ⟨rd,h5⟩:=y8 (n:=n+2) (r:=rc) (l:=l2) hO (x.s0::x.s) hx.sl hx.ss (b:=b) (T:=T') (i:=i+x.h.length+1+1) (by rw [L8,Rg]) Rk;obtain ⟨re,h6⟩:=vE (n:=n+1) (r:=rd) (l:=l2) hO x.v hx.v PT;refine aa (bX rfl rfl rfl (by decide+kernel) (eg rfl rfl (by decide+kernel) (by walk_at "l") rfl (f:=278) (by kernel_rfl) (by kernel_rfl) (bn ⟨_,_,_,rfl,h5, ?_⟩)));walk_at "w"
  refine aa (bX rfl rfl rfl (by decide+kernel) (eg rfl rfl (by decide+kernel) (by walk_at "l") rfl (f:=285) (by kernel_rfl) (by kernel_rfl) (bn ⟨_,_,_,rfl,h6, ?_⟩)));walk_at "w"
  have RK:i+x.h.length+1+1+ (x.s0::x.s).length+ (rB x.v).length+1=i+x.h.length+1+x.e.length:=by lia
  rw [RK] at M5 ⊢;have PG:i+x.h.length+1+x.e.length≤O.length:=by
   have:=congrArg List.length PS;rw [List.length_drop,List.length_append] at this;lia
  generalize hj:i+x.h.length+1+x.e.length=j at M5 PG ⊢;refine aa (bX rfl rfl rfl (by decide+kernel) (Bb (O:=O) (i:=j) (r:=re) (l:=l2) PS hj.symm GH (by lia) (by lia) (by walk_at "l") (by walk_at "l") ?_));unfold bl;walk_at "w"
  refine aa (bX rfl rfl rfl (by decide+kernel) (oW rfl (by walk_at "l") rfl rfl (aI rfl (kG rfl rfl (by decide+kernel) (by walk_at "l") (by walk_at "l") (a:=197) (by kernel_rfl) (c:=⟨173,[],["word","raw","section","name","value","spelt"]⟩) (by kernel_rfl) ?_))));iterate 6 walk_at "w"
  refine aI rfl (xI rfl rfl rfl (af (by decide+kernel) (by walk_at "l") ⟨_,rfl,by kernel_rfl,bn ⟨[],_,rfl,hx.ln, ?_⟩⟩));iterate 5 walk_at "w"
  refine ⟨rfl,_,E8 _ _ _ _ _ _, ?_⟩;walk_at "w"
  refine ⟨_,O,x.e,j,re,l2,"value",.str (gI x.w x.t),.str x.ln,rD x.v,.str (eq (x.s0::x.s)),rfl,rfl,by lia, ?_⟩;rw [show x.e=9:: (x.s0::x.s++ (rB x.v++ [10])) from rfl,xC, ←show x.e=9:: (x.s0::x.s++ (rB x.v++ [10])) from rfl];walk_at "w"
  repeat refine aO ?_
  exact hW _ ⟨_,j,re,rfl,⟨by walk_at "l",by walk_at "l",by walk_at "l",by walk_at "l",by walk_at "l"⟩,PG,M5⟩
 ·obtain ⟨ρ,i,r,rfl,R,hi,hd⟩:=hS
  have D8:(rows.flatMap RB.pcs).length≤300:=by rw [uO];lia
  have RL:O.length≤i:=by
   have:=congrArg List.length hd;rw [List.length_drop,List.flatMap_nil,List.length_nil] at this;lia
  generalize rows.flatMap RB.pcs=l at D8 ⊢;have R1:=R.self;have R2:=R.start;have R3:=R.g1;have GH:=hO.1;refine gC (fO (cV rfl (gb hO rfl (by walk_at "l") ⟨_,rfl, ?_⟩)));rw [if_neg (by simpa using RL)];unfold bl;refine aa (BF rfl (by unfold gH;rw [R1]<;>rfl) (oW rfl (by walk_at "l") rfl rfl (aI rfl (kG rfl rfl (by decide+kernel) (by walk_at "l") (by walk_at "l") (a:=197) (by kernel_rfl) (c:=⟨173,[],["word","raw","section","name","value","spelt"]⟩) (by kernel_rfl) ?_))));refine aI rfl (aj rfl (aI rfl (Bb (u:=[]) (T:=[]) (O:=O) (i:=i) (r:=r) (l:=l) hd rfl GH (by lia) (by lia) (by walk_at "l") (by walk_at "l") (bn ?_))));refine ⟨rfl,_,xZ _ _, ?_⟩;walk_at "w"
  refine ⟨_,O,[],i,r,l,"gap",dS "",dS "",.none,dS "",rfl,rfl,by lia, ?_⟩;rw [if_pos (show (([]:List UInt8)== [])=true from rfl)];unfold bl;refine aa (cC (Cv (by decide+kernel) (by walk_at "l") rfl (by kernel_rfl) (by kernel_rfl) rfl ⟨rfl,_,rfl⟩))
noncomputable def kc(x:Str):List UInt8:=x.cps.toList.map Nat.toUInt8
noncomputable def lq(h:Hd)(v:D):RB:=⟨kc h.sec,(match h.below with| .str b=>some (kc b)|_=>none),(kc h.word).headD 0,(kc h.word).tail,(match v with| .str x=>some (32::kc x)|_=>none),h.iname⟩
theorem i3{β:Type}{f g:Hd→D→β}(e:(aX.map fun h=>(cq h).map (f h))=aX.map fun h=>(cq h).map (g h)): ∀h:Hd,h∈aX→∀v:D,v∈cq h→f h v=g h v:=fun h m v mv=>List.map_inj_left.mp (List.map_inj_left.mp e h m) v mv
noncomputable def xH(b:UInt8):Bool:= !(bi b==34)&& !(bi b==92)&& !(bi b==10)&& !(bi b==0)
noncomputable def sK(b:UInt8):Bool:= !(bi b==10)&& !(bi b==35)&& !(bi b==59)&& !(bi b==34)&& !(bi b==92)
noncomputable def Es(x:RB):Bool:= !x.w.isEmpty&&Nat.ble x.w.length 1000&&x.w.all (fun b=>rT b.toNat)&& (match x.t with|none=>true|some q=>Nat.ble q.length 1000&&q.all xH)&&Gc x.s0.toNat&&Nat.ble (x.s0::x.s).length 1000&& (x.s0::x.s).all (fun b=>rT b.toNat)&& (match x.v with|none=>true|some q=>Nat.ble q.length 1000&&q.all sK)&&Nat.ble x.bytes.length 200&&x.bytes.all fun b=> !(Nat.beq b.toNat 13)
theorem zr: ∀h:Hd,h∈aX→∀v:D,v∈cq h→Es (lq h v)=true:=i3 (by kernel_rfl)
theorem B0: ∀h:Hd,h∈aX→∀v:D,v∈cq h→kP (eq ((lq h v).s0:: (lq h v).s)) "lower" []=some (.str (lq h v).ln):=i3 (by kernel_rfl)
theorem Bl: ∀h:Hd,h∈aX→∀v:D,v∈cq h→(gI (lq h v).w (lq h v).t,eq ((lq h v).s0:: (lq h v).s),rD (lq h v).v)= (h.isec,h.word,v):=i3 (by kernel_rfl)
theorem zT{b:UInt8}(h:xH b=true):ut b:=by
 unfold xH at h;simp only [Bool.and_eq_true,Bool.not_eq_true'] at h;exact ⟨h.1.1.1,h.1.1.2,h.1.2,h.2⟩
theorem v8{b:UInt8}(h:sK b=true):lH b:=by
 unfold sK at h;simp only [Bool.and_eq_true,Bool.not_eq_true'] at h;exact ⟨h.1.1.1.1,h.1.1.1.2,h.1.1.2,h.1.2,h.2⟩
noncomputable def rb(r:Rw):RB:=lq r.h r.v
theorem xx{r:Rw}(hr:cW r):(rb r).Ok∧(rb r).bytes.length≤200∧∀b∈ (rb r).bytes,b.toNat≠13:=by
 have h1:=zr r.h hr.1 r.v hr.2;have h2:=B0 r.h hr.1 r.v hr.2;change Es (rb r)=true at h1
 change kP (eq ((rb r).s0:: (rb r).s)) "lower" []=some (.str (rb r).ln) at h2
 generalize rb r=x at h1 h2;unfold Es at h1;simp only [Bool.and_eq_true,Nat.ble_eq] at h1;obtain ⟨⟨⟨⟨⟨⟨⟨⟨⟨a1,a2⟩,a3⟩,a4⟩,a5⟩,a6⟩,a7⟩,a8⟩,a9⟩,Nv⟩:=h1;refine ⟨⟨fun e=> ?_,a2,List.all_eq_true.mp a3,fun q e=> ?_,a5,a6,List.all_eq_true.mp a7,fun u e=> ?_,h2⟩,a9,fun b m e=> ?_⟩
 ·rw [e] at a1;cases a1
 ·rw [e] at a4
  simp only [Bool.and_eq_true,Nat.ble_eq] at a4;exact ⟨a4.1,fun b m=>zT (List.all_eq_true.mp a4.2 b m)⟩
 ·rw [e] at a8
  simp only [Bool.and_eq_true,Nat.ble_eq] at a8;exact ⟨a8.1,fun b m=>v8 (List.all_eq_true.mp a8.2 b m)⟩
 ·have:=List.all_eq_true.mp Nv b m
  rw [e] at this;cases this
noncomputable def et(r:Rw):Pc:=⟨r,(rb r).h,[10],(rb r).e⟩
theorem Fa{r:Rw}(hr:cW r):(rb r).pcs= [p1 (et r),p2 (et r),p3 (et r)]:=by
 have h1:=Bl r.h hr.1 r.v hr.2;change (gI (rb r).w (rb r).t,eq ((rb r).s0:: (rb r).s),rD (rb r).v)=_ at h1
 have e1:gI (rb r).w (rb r).t=r.h.isec:=congrArg (·.1) h1;have e2:eq ((rb r).s0:: (rb r).s)=r.h.word:=congrArg (·.2.1) h1;have e3:rD (rb r).v=r.v:=congrArg (·.2.2) h1;unfold RB.pcs;rw [e1,e2,e3];rfl
theorem BR(rs:List Rw):(∀r∈rs,cW r)→(rs.map rb).flatMap RB.pcs= (kN (rs.map et)).map lf:=by
 induction rs with
 |nil=>exact fun _=>rfl
 |cons r rs ih=>
  intro h;rw [List.map_cons,List.flatMap_cons,Fa (h r List.mem_cons_self),ih fun x m=>h x (List.mem_cons_of_mem _ m)];rfl
noncomputable def fN(rs:List Rw):List UInt8:=(rs.map rb).flatMap RB.bytes
theorem pq(rs:List Rw):(∀r∈rs,cW r)→(fN rs).length≤200*rs.length∧∀b∈fN rs,b.toNat≠13:=by
 induction rs with
 |nil=>exact fun _=>⟨Nat.le_refl _,fun b m=>nomatch m⟩
 |cons r rs ih=>
  intro h;obtain ⟨g1,g2⟩:=ih fun x m=>h x (List.mem_cons_of_mem _ m);obtain ⟨_,g3,g4⟩:=xx (h r List.mem_cons_self);rw [show fN (r::rs)= (rb r).bytes++fN rs from rfl];exact ⟨by rw [List.length_append,List.length_cons];lia,fun b m=>(List.mem_append.mp m).elim (g4 b) (g2 b)⟩
theorem Cp{rs:List Rw}(h: ∀r∈rs,cW r)(hl:rs.length≤100):gT (fN rs):=⟨Nat.le_trans (pq rs h).1 (by lia),(pq rs h).2⟩
theorem wC{n:Nat}{rs:List Rw}(h: ∀r∈rs,cW r)(hl:rs.length≤100):run (n+8) 435 [.ptr,.d (.bytes (fN rs))] (some (.inst 575 []))=some (.ok .none,some (.inst 575 [("pieces",.d (.lst ((kN (rs.map et)).map lf)))])):=by
 refine bo (F:=⟨bB 47 0,[.bytes []]⟩) (by kernel_rfl) rfl (by kernel_rfl) (ρ0:=[("self",.ptr),("octets",.d (.bytes (fN rs)))]) (by kernel_rfl) (by walk_at "o") ?_
 try dsimp only [ai,ak]
 obtain ⟨o,h1⟩:=BJ (n:=n) (rs.map rb) (fun x m=>by
  obtain ⟨r,mr,rfl⟩:=List.mem_map.mp m;exact (xx (h r mr)).1) (by rw [List.length_map];exact hl) (Cp h hl)
 rw [BR rs h] at h1;refine aa (sH (by decide+kernel) rfl (FN rfl rfl (C:=302) (c:=(cw.lookup 302).get (by kernel_rfl)) (f:=257) (by kernel_rfl) rfl (by kernel_rfl) (af (by decide+kernel) (by walk_at "l") ⟨AF (fN rs) 0 1 [],_,o, ?_,by kernel_rfl,h1, ?_⟩)))
 ·exact vW (n:=n+6) (fN rs)
 ·exact ⟨575,[],_,by walk_at "l",rfl,by kernel_rfl,rfl,aO ⟨rfl,rfl⟩⟩
noncomputable def bF(h:Hd)(v:D):Str:=(match h.below with| .str b=>"["++ (h.sec++" \""++b++"\"")|_=>"["++h.sec)++"]\n\t"++h.word++ (match v with| .str x=>" = "++x|_=>"")++"\n"
noncomputable def Ci(h:Hd):Str:=match h.below with
 | .str b=>h.sec++" \""++b++"\""
 |_=>h.sec
theorem km: ∀h:Hd,h∈aX→∀v:D,v∈cq h→(kc (bF h v),(bF h v).cps.toList.all fun c=>Nat.blt c 256)= ((lq h v).bytes,true):=i3 (by kernel_rfl)
theorem zI(ts:List Str):(Txt.join "" ts).cps.toList=ts.flatMap (·.cps.toList):=by
 have h0:("":Str).cps= #[]:=by kernel_rfl
 have key: ∀(r:List Str) (a:Array Nat),(r.foldl (fun cU p=>cU++ ("":Str).cps++p.cps) a).toList=a.toList++r.flatMap (·.cps.toList):=by
  intro r
  induction r with
  |nil=>intro a;simp
  |cons x r ih=>intro a;rw [List.foldl_cons,ih,h0,List.flatMap_cons];simp
 show ((ts.drop 1).foldl (fun cU p=>cU++ ("":Str).cps++p.cps) (ts.headD Str.empty).cps).toList=_
 cases ts with
 |nil=>rfl
 |cons x r=>rw [List.drop_one,List.tail_cons,key];rfl
theorem Cc{ts:List Str}(h: ∀x∈ts,x.length≤200)(hl:ts.length≤100):JoinOk "" ts=true:=by
 have h0:("":Str).length=0:=by kernel_rfl
 have key: ∀(r:List Str) (a:Nat),(∀x∈r,x.length≤200)→r.foldl (fun n (x:Str)=>n+x.length+ ("":Str).length) a≤a+200*r.length:=by
  intro r
  induction r with
  |nil=>intro a _;exact Nat.le_refl _
  |cons x r ih=>
   intro a hr;have h1:=ih (a+x.length+ ("":Str).length) fun y m=>hr y (List.mem_cons_of_mem _ m);have h2:=hr x List.mem_cons_self;rw [List.foldl_cons,List.length_cons];lia
 have h1:=key ts 0 h;show (!decide (ts.toArray.foldl (fun n (x:Str)=>n+x.length+ ("":Str).length) 0>sizeLine))=true;rw [List.foldl_toArray];have hz:sizeLine=16777216:=rfl;rw [Bool.not_eq_true',decide_eq_false_iff_not];lia
theorem tn(ts:List Str):jY (ts.map D.str)=some ts:=by
 induction ts with
 |nil=>rfl
 |cons x r ih=>
  show (jY (r.map D.str)).map (x:: ·)=_;rw [ih]<;>rfl
theorem z9(l:List Nat)(h: ∀c∈l,c<256):jz (l.map fun c=>D.int (c:Nat))=some (l.map Nat.toUInt8):=by
 induction l with
 |nil=>rfl
 |cons c r ih=>
  refine (if_pos ⟨Int.natCast_nonneg c,Int.ofNat_lt.mpr (h c List.mem_cons_self)⟩).trans ?_;rw [ih fun x m=>h x (List.mem_cons_of_mem _ m)]<;>rfl
theorem tX{α β:Type}{f g:α→List β}{l:List α}:(∀x∈l,f x=g x)→l.flatMap f=l.flatMap g:=by
 induction l with
 |nil=>exact fun _=>rfl
 |cons x r ih=>exact fun h=>by rw [List.flatMap_cons,List.flatMap_cons,h x List.mem_cons_self,ih fun y m=>h y (List.mem_cons_of_mem _ m)]
theorem BH{r:Rw}(hr:cW r):(bF r.h r.v).length≤200:=by
 have h1:=congrArg (·.1) (km r.h hr.1 r.v hr.2);have h2:=congrArg List.length h1;change ((bF r.h r.v).cps.toList.map Nat.toUInt8).length= (rb r).bytes.length at h2
 rw [List.length_map,Array.length_toList] at h2;have h3:=(xx hr).2.1;show (bF r.h r.v).cps.size≤200;lia
theorem vU{r:Rw}(hr:cW r): ∀c∈ (bF r.h r.v).cps.toList,c<256:=fun c m=>by
 have h1:=List.all_eq_true.mp (congrArg (·.2) (km r.h hr.1 r.v hr.2)) c m;exact Nat.blt_eq.mp h1
theorem zy{n:Nat}{rs:List Rw}(h: ∀r∈rs,cW r)(hl:rs.length≤100):run (n+1) 876 [.d (.lst (rs.map dn))] none=some (.ok (.bytes (fN rs)),none):=by
 refine bo (F:=⟨bg 66,[]⟩) (by kernel_rfl) rfl (by kernel_rfl) (ρ0:=[("rows",.d (.lst (rs.map dn)))]) (by kernel_rfl) (by walk_at "t") ?_
 try dsimp only [ai,ak]
 iterate 2 walk_at "w"
 refine aa (fM rfl ?_);refine af (by decide+kernel) (by walk_at "l") ⟨_,bw (by rw [List.length_map];lia),by rw [List.length_map];lia, ?_⟩
 let base:List Rw→List (Str×Loc):=fun pre=>[("rows",.d (.lst (rs.map dn))),("found",.own (pre.map fun r=>D.str (bF r.h r.v)))]
 refine fk dn (fun pre S=>∃t,Tl ["section","below","word","value","head"] t∧S= ⟨base pre++t,none⟩) rs (fun pre r post e S hS=> ?_) ⟨[],.inl rfl,rfl⟩ (fun S hS=> ?_)
 ·have hr:=h r (by rw [e];simp)
  have hp:pre.length≤100:=by rw [e,List.length_append] at hl;lia
  have aP:(pre.map fun r=>D.str (bF r.h r.v)).length≤100:=by rw [List.length_map];exact hp
  clear e;obtain ⟨h,v⟩:=r;obtain ⟨hh,hv⟩:=hr;dsimp only at hh hv;obtain ⟨t,ht,rfl⟩:=hS;refine ⟨⟨base pre++lo "section" (.str h.sec)::lo "below" h.below::lo "word" (.str h.word)::lo "value" v::t.drop 4,none⟩,by apply ht.all (l:=t) (k:=0) rfl;exact rfl;exact fun _ _ _ _ _=>rfl, ?_⟩;have hm: ∀{β:Type} {f g:Hd→D→β},(aX.map fun h=>(cq h).map (f h))= (aX.map fun h=>(cq h).map (g h))→f h v=g h v:=fun e=>i3 e h hh v hv
  try dsimp only [base,List.cons_append,List.nil_append]
  rw [List.map_append];generalize (pre.map fun r=>D.str (bF r.h r.v))=cU at aP ⊢;refine aa (bX rfl rfl rfl (by decide+kernel) (c8 (.str (Ci h)) (by clear hm aP hp;clear base;revert v;revert h;exact i3 (by kernel_rfl)) ⟨_,by walk_at "u", ?_⟩))
  try dsimp only
  refine aa (jk rfl rfl (by walk_at "l") rfl (by walk_at "l") (c8 (.str (bF h v)) (by clear hm aP hp;clear base;revert v;revert h;exact i3 (by kernel_rfl)) ⟨_,_,by walk_at "l",by lia,by walk_at "u", ?_⟩));walk_at "w"
  exact ⟨fun v e=>(nomatch e),_,.inr rfl,rfl⟩
 ·have MH:(rs.map fun r=>D.str (bF r.h r.v))= (rs.map fun r=>bF r.h r.v).map D.str:=by rw [List.map_map];rfl
  have RJ:JoinOk "" (rs.map fun r=>bF r.h r.v)=true:=Cc (fun x m=>by
   obtain ⟨r,mr,rfl⟩:=List.mem_map.mp m;exact BH (h r mr)) (by rw [List.length_map];exact hl)
  have hj:kP "" "join" [.lst (rs.map fun r=>D.str (bF r.h r.v))]=some (.str (Txt.join "" (rs.map fun r=>bF r.h r.v))):=by
   show (jY (rs.map fun r=>D.str (bF r.h r.v))).bind (fun ts=>if JoinOk "" ts then some (D.str (Txt.join "" ts)) else none)=_;rw [MH,tn,Option.bind_some,if_pos RJ]
  have hc:(Txt.join "" (rs.map fun r=>bF r.h r.v)).cps.toList=rs.flatMap fun r=>(bF r.h r.v).cps.toList:=by rw [zI,List.flatMap_map]
  have hb:((rs.flatMap fun r=>(bF r.h r.v).cps.toList).map Nat.toUInt8)=fN rs:=by
   unfold fN;rw [List.map_flatMap,List.flatMap_map];exact tX fun r m=>congrArg (·.1) (km r.h (h r m).1 r.v (h r m).2)
  have hs: ∀c∈ (rs.flatMap fun r=>(bF r.h r.v).cps.toList),c<256:=fun c m=>by
   obtain ⟨r,mr,mc⟩:=List.mem_flatMap.mp m;exact vU (h r mr) c mc
  have aP:(rs.flatMap fun r=>(bF r.h r.v).cps.toList).length≤20000:=by
   have h1:=(pq rs h).1;rw [←hb,List.length_map] at h1;lia
  have Pt:(Txt.join "" (rs.map fun r=>bF r.h r.v)).length≤20000:=by
   show (Txt.join "" (rs.map fun r=>bF r.h r.v)).cps.size≤20000;rw [←Array.length_toList,hc];exact aP
  have nj:dN (.str (Txt.join "" (rs.map fun r=>bF r.h r.v)))=some ((rs.flatMap fun r=>(bF r.h r.v).cps.toList).map fun c=>D.str ⟨#[c]⟩):=by
   have e1:dN (.str (Txt.join "" (rs.map fun r=>bF r.h r.v)))=some (jm (Txt.join "" (rs.map fun r=>bF r.h r.v))):=if_pos (Nat.le_trans Pt (by decide));rw [e1];unfold jm;rw [hc]
  generalize Txt.join "" (rs.map fun r=>bF r.h r.v)=x at hj nj Pt;generalize (rs.flatMap fun r=>(bF r.h r.v).cps.toList)=cl at nj hb hs aP;dsimp only [base] at hS;obtain ⟨t,ht,rfl⟩:=hS
  try dsimp only [List.cons_append,List.nil_append]
  refine aa (cC (nS rfl rfl (by decide+kernel) (by walk_at "l") (by walk_at "l") (id:="bytes") (by kernel_rfl) (aI rfl (eU (q:=⟨_,_,_,_,_,_⟩) rfl (jX cl (fun c=>.str ⟨#[c]⟩) (fun _=>true) (fun c=>.int (c:Nat)) (fun c=>[lo "sign" (.str ⟨#[c]⟩)]) [] (by decide+kernel) (by decide+kernel) rfl ?_)))));refine xI rfl rfl rfl (aj rfl ⟨_,rfl,by kernel_rfl, ?_⟩);iterate 3 walk_at "w"
  refine ⟨_,_,rfl,hj,nj,by lia,by kernel_rfl,rfl,fun x _=>rfl,fun x _ y=>rfl,fun x m=>rfl,fun x m _=>by kernel_rfl, ?_⟩;rw [List.filter_eq_self.mpr (fun _ _=>rfl)];refine bn ⟨_,.bytes (fN rs),rfl, ?_,rfl,rfl⟩;show (if (cl.map fun c=>D.int (c:Nat)).length≤sizeLine then (jz (cl.map fun c=>D.int (c:Nat))).map D.bytes else none)=_;rw [if_pos (by rw [List.length_map];exact Nat.le_trans aP (by decide)),z9 cl hs,hb];rfl
noncomputable def dC(sl:Slot):Prop:=∃cells am,sl= .deck cells am∧0≤am∧am<2147483647∧cells.length≤1000
theorem pu{n:Nat}{many:Nat}(h0:0<many)(h1:many≤1000){sl:Slot}(hs:dC sl): ∃j:Nat,j<many∧∃dQ,run (n+1) 857 [.ptr,.d (.int many)] (some sl)=some (.ok (.int j),some dQ)∧dC dQ:=by
 obtain ⟨cells,am,rfl,h2,h3,h4⟩:=hs;have hm:(0:Int) <many:=Int.natCast_pos.mpr h0;have key: ∀c:Int,∃j:Nat,j<many∧c.fmod many=j:=fun c=>by
  have e1:=Int.fmod_nonneg_of_pos c hm;have e2:=Int.fmod_lt_of_pos c hm;exact ⟨(c.fmod many).toNat,(Int.toNat_lt e1).mpr e2,(Int.toNat_of_nonneg e1).symm⟩
 have e0:run (n+1) 857 [.ptr,.d (.int many)] (some (.deck cells am))=sX [.ptr,.d (.int many)] (some (.deck cells am)):=rfl;have hc:0< (many:Int)∧(many:Int)≤1000∧0≤am∧am<2147483647∧cells.length≤1000:=⟨hm,Int.ofNat_le.mpr h1,h2,h3,h4⟩
 cases hl:cells.getLast? with
 |some c=>
  obtain ⟨j,hj,e⟩:=key c;refine ⟨j,hj,.deck cells.dropLast am, ?_,cells.dropLast,am,rfl,h2,h3,by rw [List.length_dropLast];exact Nat.le_trans (Nat.sub_le _ _) h4⟩;refine e0.trans ((if_pos hc).trans ?_);rw [show dX (many:Int) cells am= (c.fmod many,.deck cells.dropLast am) from by unfold dX;rw [hl];rfl, ←e]
 |none=>
  obtain ⟨j,hj,e⟩:=key (((am*16807+11).fmod 2147483647).fdiv 64);have g1:=Int.fmod_nonneg_of_pos (am*16807+11) (show (0:Int) <2147483647 by decide);have g2:=Int.fmod_lt_of_pos (am*16807+11) (show (0:Int) <2147483647 by decide);refine ⟨j,hj,.deck [] ((am*16807+11).fmod 2147483647), ?_,[],_,rfl,g1,g2,Nat.zero_le _⟩;refine e0.trans ((if_pos hc).trans ?_);rw [show dX (many:Int) cells am= ((((am*16807+11).fmod 2147483647).fdiv 64).fmod many,.deck [] ((am*16807+11).fmod 2147483647)) from by unfold dX;rw [hl];rfl, ←e]
theorem Cg{l:List D}{j:Nat}(h:j<l.length)(hl:l.length≤1000): ∃d∈l,nu (.tup l) (j:Int)=some d:=by
 refine ⟨l[j],List.getElem_mem h, ?_⟩;have h1: -(2:Int) ^ 62≤(j:Int):=Int.le_trans (show -(2:Int) ^ 62≤0 from by decide+kernel) (Int.natCast_nonneg j);have h2:(j:Int) < (2:Int) ^ 62:=Int.lt_of_lt_of_le (Int.ofNat_lt.mpr (Nat.lt_of_lt_of_le h hl)) (by decide+kernel);have e:seqIndex? (j:Int) l.length=some j:=by
  unfold seqIndex?;have hc:(decide (0≤(j:Int))&&decide ((j:Int) < (l.length:Int)))=true:=by
   rw [Bool.and_eq_true,decide_eq_true_eq,decide_eq_true_eq];exact ⟨Int.natCast_nonneg j,Int.ofNat_lt.mpr h⟩
  rw [if_neg (show ¬((j:Int) <0) from Int.not_lt.mpr (Int.natCast_nonneg j))]
  try dsimp only
  rw [if_pos hc,Int.toNat_natCast]
 unfold nu
 try dsimp only
 rw [if_pos ⟨h1,h2⟩,e,Option.bind_some,List.getElem?_eq_getElem h]
theorem B4{l:List D}(h:l.length≤1000):jg "len" [.tup l]=some (.int l.length):=if_pos (Nat.le_trans h (by decide))
theorem BN{n:Nat}{l:List D}(h0:l≠[])(h1:l.length≤1000){sl:Slot}(hs:dC sl): ∃d∈l,∃dQ,run (n+2) 864 [.ptr,.d (.tup l)] (some sl)=some (.ok d,some dQ)∧dC dQ:=by
 obtain ⟨j,hj,dQ,e,iN⟩:=pu (n:=n) (many:=l.length) (List.length_pos_iff.mpr h0) h1 hs;obtain ⟨d,hd,hi⟩:=Cg hj h1;refine ⟨d,hd,dQ, ?_,iN⟩;refine bo (F:=⟨bg 64,[]⟩) (by kernel_rfl) rfl (by kernel_rfl) (ρ0:=[("deck",.ptr),("some",.d (.tup l))]) (by kernel_rfl) (by walk_at "t") ?_
 try dsimp only [ai,ak]
 iterate 2 walk_at "w"
 refine ft rfl ?_;walk_at "w"
 refine uw rfl rfl (by decide+kernel) (by walk_at "l") (by walk_at "l") (a:=857) (by kernel_rfl) (by kernel_rfl) (uo (by decide+kernel) (by walk_at "l") (aI rfl (iT rfl rfl (by decide+kernel) (by walk_at "l") (by walk_at "l") (id:="len") (by kernel_rfl) (aI rfl (af (by decide+kernel) (by walk_at "l") (bn ⟨_,_,rfl,B4 h1,bn ⟨rfl,_,_,_,rfl,e,_,_,rfl,hi, ?_⟩⟩))))));exact ⟨rfl,rfl⟩
theorem gU(i:Nat){sec below w0 w1:D}{l2:List D}(h0:(aX[i]?.map fun h=>(dn ⟨h,.none⟩,cq h))=some (.tup [sec,below,w0,.none],l2))(h1:(aX[i+1]?.map fun h=>(dn ⟨h,.none⟩,cq h))=some (.tup [sec,below,w1,.none],l2)): ∀w∈ [w0,w1],∀v∈l2,∃r,cW r∧dn r= .tup [sec,below,w,v]:=by
 have key: ∀(j:Nat) (w:D),(aX[j]?.map fun h=>(dn ⟨h,.none⟩,cq h))=some (.tup [sec,below,w,.none],l2)→∀v∈l2,∃r,cW r∧dn r= .tup [sec,below,w,v]:=by
  intro j w e v hv;obtain ⟨h,e1,e2⟩:=Option.map_eq_some_iff.mp e;obtain ⟨e3,e4⟩:=Prod.mk.inj e2;refine ⟨⟨h,v⟩,⟨List.mem_of_getElem? e1,by rw [e4];exact hv⟩, ?_⟩;unfold dn at e3 ⊢;injection e3 with e3
  injection e3 with q1 e3
  injection e3 with q2 e3
  injection e3 with q3 e3
  dsimp only at q1 q2 q3 ⊢;rw [q1,q2,q3]
 intro w hw v hv;rcases List.mem_cons.mp hw with rfl|hw
 ·exact key i w h0 v hv
 ·rw [List.mem_singleton.mp hw];exact key (i+1) w1 h1 v hv
theorem BG{n:Nat}{sl:Slot}(h:WX (ah (run (n+2)) 60) (ai (bg 65)).names (ak (bg 65)) ⟨[("deck",.ptr)],some sl⟩ fun f S=>∃s',S.σ=some s'∧dC s'∧∃r,cW r∧dn r=gY f): ∃r,cW r∧∃dQ,run (n+3) 871 [.ptr] (some sl)=some (.ok (dn r),some dQ)∧dC dQ:=by
 obtain ⟨f,S,e,s',hs,k,r,hr,er⟩:=h;exact ⟨r,hr,s',bo (F:=⟨bg 65,[]⟩) (by kernel_rfl) rfl (by kernel_rfl) (ρ0:=[("deck",.ptr)]) (by kernel_rfl) rfl ⟨f,S,e,er.symm,hs⟩,k⟩
noncomputable def yG:List D:=[.tup [dS "git://a/",dS "A:"],.tup [dS "git://b/",dS "A:x/"],.tup [dS "ssh://c/",dS "B"]]
noncomputable def ym:List D:=[.tup [dS "core",.none],.tup [dS "Core",.none],.tup [dS "remote",dS "origin"],.tup [dS "remote",dS "Mine"],.tup [dS "branch",dS "main"]]
theorem nn{a:D}{l:List D}:a::l≠[]:=by simp
theorem cu{n k:Nat}{ns:ab}{ρ:List (Str×Loc)}{Q:D→St→Prop}{l:List D}{sl:Slot}{g:Str}{q p xp:Pos}{arg:Expr}(hk:dC sl)(h0:l≠[])(h1:l.length≤1000)(hg:(g== ("_law_pick":Str))=true)(hh:cM ns (.Call (.Name g q) [.Name "deck" xp,arg] [] p) ⟨ρ,some sl⟩=none)(hb:(decide ([.Name "deck" xp,arg].length≤8)&&cF (.Name g q) p&& [.Name "deck" xp,arg].all aE)=true)(h2:ρ.lookup g=none)(h3:ns.lookup g=some .globalImplicit)(h4:ρ.lookup ("deck":Str)=some .ptr)(ha:aE arg=true)
  (h:WD (ah (run (n+2)) (k+2)) ns arg ⟨ρ,some sl⟩ fun d S=>d= .tup l∧S= ⟨ρ,some sl⟩) (hQ: ∀d∈l,∀dQ,dC dQ→Q d ⟨ρ,some dQ⟩):WD (ah (run (n+2)) (k+3)) ns (.Call (.Name g q) [.Name "deck" xp,arg] [] p) ⟨ρ,some sl⟩ Q:=by
 obtain ⟨d,m,s1,e,k1⟩:=BN (n:=n) h0 h1 hk;obtain rfl:g= ("_law_pick":Str):=beq_iff_eq.mp hg;refine uw hh hb (by decide+kernel) h2 h3 (a:=864) (by kernel_rfl) (by kernel_rfl) (uo (by decide+kernel) h4 (aI ha ?_));obtain ⟨d',S',h5,rfl,rfl⟩:=h;exact ⟨_,_,h5,bn ⟨rfl,sl,d,s1,rfl,e,hQ d m s1 k1⟩⟩
theorem zm{n:Nat}{sl:Slot}(hs:dC sl): ∃r,cW r∧∃dQ,run (n+3) 871 [.ptr] (some sl)=some (.ok (dn r),some dQ)∧dC dQ:=by
 refine BG ?_;obtain ⟨j,hj,s1,e1,k1⟩:=pu (n:=n+1) (many:=6) (by decide) (by decide) hs;generalize em:bg 65=st;replace em:=em.symm;revert em
 conv=>lhs;rhs;unfold bg pw;whnf
 rintro rfl
 try dsimp only [ai,ak]
 refine aa (bX rfl rfl rfl (by decide+kernel) (uw rfl rfl (by decide+kernel) (by walk_at "l") (by walk_at "l") (a:=857) (by kernel_rfl) (by kernel_rfl) (uo (by decide+kernel) (by walk_at "l") (aI rfl (aj rfl (bn ⟨rfl,_,_,_,rfl,e1, ?_⟩))))));walk_at "w"
 refine aa (bC (aF rfl (af (by decide+kernel) (by walk_at "l") ⟨rfl,aj rfl ⟨_,eq_int, ?_⟩⟩)))
 cases h5:(j:Int)==5 with
 |true=>
  refine eC rfl ?_;refine aa (ui (by kernel_rfl) (cu (l:=yG) k1 nn (by decide) (by decide+kernel) rfl rfl (by walk_at "l") (by walk_at "l") (by walk_at "l") rfl (eT (by decide+kernel) (by walk_at "l") (by walk_at "l") (by kernel_rfl) ⟨rfl,rfl⟩) fun d m s2 k2=> ?_));unfold yG at m;simp only [List.mem_cons,List.not_mem_nil,or_false] at m;rcases m with rfl|rfl|rfl
  ·refine ⟨_,_,rfl,rfl,aa (cC (fq rfl ?_))⟩
   iterate 4 walk_at "w"
   refine aL rfl (cu (l:=[dS "insteadOf",dS "pushInsteadOf"]) k2 nn (by decide) (by decide+kernel) rfl rfl (by walk_at "l") (by walk_at "l") (by walk_at "l") rfl (c8 _ (by kernel_rfl) ⟨rfl,rfl⟩) fun d1 m1 s3 k3=> ?_);iterate 3 walk_at "w"
   exact ⟨s3,rfl,k3,gU 16 (by kernel_rfl) (by kernel_rfl) _ m1 _ (List.mem_singleton.mpr rfl)⟩
  ·refine ⟨_,_,rfl,rfl,aa (cC (fq rfl ?_))⟩
   iterate 4 walk_at "w"
   refine aL rfl (cu (l:=[dS "insteadOf",dS "pushInsteadOf"]) k2 nn (by decide) (by decide+kernel) rfl rfl (by walk_at "l") (by walk_at "l") (by walk_at "l") rfl (c8 _ (by kernel_rfl) ⟨rfl,rfl⟩) fun d1 m1 s3 k3=> ?_);iterate 3 walk_at "w"
   exact ⟨s3,rfl,k3,gU 18 (by kernel_rfl) (by kernel_rfl) _ m1 _ (List.mem_singleton.mpr rfl)⟩
  ·refine ⟨_,_,rfl,rfl,aa (cC (fq rfl ?_))⟩
   iterate 4 walk_at "w"
   refine aL rfl (cu (l:=[dS "insteadOf",dS "pushInsteadOf"]) k2 nn (by decide) (by decide+kernel) rfl rfl (by walk_at "l") (by walk_at "l") (by walk_at "l") rfl (c8 _ (by kernel_rfl) ⟨rfl,rfl⟩) fun d1 m1 s3 k3=> ?_);iterate 3 walk_at "w"
   exact ⟨s3,rfl,k3,gU 20 (by kernel_rfl) (by kernel_rfl) _ m1 _ (List.mem_singleton.mpr rfl)⟩
 |false=>
  refine bD rfl ?_;refine aO ?_
  try dsimp only
  refine aa (ui (by kernel_rfl) (cu (l:=ym) k1 nn (by decide) (by decide+kernel) rfl rfl (by walk_at "l") (by walk_at "l") (by walk_at "l") rfl (eT (by decide+kernel) (by walk_at "l") (by walk_at "l") (by kernel_rfl) ⟨rfl,rfl⟩) fun d m s2 k2=> ?_));unfold ym at m;simp only [List.mem_cons,List.not_mem_nil,or_false] at m;rcases m with rfl|rfl|rfl|rfl|rfl
  ·refine ⟨_,_,rfl,rfl, ?_⟩
   try dsimp only
   refine aa (bC (bu (bj (aF rfl (af (by decide+kernel) (by walk_at "l") ⟨rfl,aj rfl ⟨_,rfl, ?_⟩⟩)))));rw [if_neg (by decide+kernel),if_neg (by simp)];refine aO ?_;refine aa (bC (bu (bj (aF rfl (af (by decide+kernel) (by walk_at "l") ⟨rfl,aj rfl ⟨_,rfl, ?_⟩⟩)))));rw [if_neg (by decide+kernel),if_neg (by simp)];refine aO ?_;refine aa (cC (fq rfl ?_));iterate 4 walk_at "w"
   refine aL rfl (cu (l:=[dS "flag",dS "Size"]) k2 nn (by decide) (by decide+kernel) rfl rfl (by walk_at "l") (by walk_at "l") (by walk_at "l") rfl (c8 _ (by kernel_rfl) ⟨rfl,rfl⟩) fun d1 m1 s3 k3=> ?_);refine aL rfl (cu (l:=bU) k3 nn (by decide) (by decide+kernel) rfl rfl (by walk_at "l") (by walk_at "l") (by walk_at "l") rfl (eT (by decide+kernel) (by walk_at "l") (by walk_at "l") (by kernel_rfl) ⟨rfl,rfl⟩) fun d2 m2 s4 k4=> ?_);walk_at "w"
   exact ⟨s4,rfl,k4,gU 0 (by kernel_rfl) (by kernel_rfl) _ m1 _ m2⟩
  ·refine ⟨_,_,rfl,rfl, ?_⟩
   try dsimp only
   refine aa (bC (bu (bj (aF rfl (af (by decide+kernel) (by walk_at "l") ⟨rfl,aj rfl ⟨_,rfl, ?_⟩⟩)))));rw [if_neg (by decide+kernel),if_neg (by simp)];refine aO ?_;refine aa (bC (bu (bj (aF rfl (af (by decide+kernel) (by walk_at "l") ⟨rfl,aj rfl ⟨_,rfl, ?_⟩⟩)))));rw [if_neg (by decide+kernel),if_neg (by simp)];refine aO ?_;refine aa (cC (fq rfl ?_));iterate 4 walk_at "w"
   refine aL rfl (cu (l:=[dS "flag",dS "Size"]) k2 nn (by decide) (by decide+kernel) rfl rfl (by walk_at "l") (by walk_at "l") (by walk_at "l") rfl (c8 _ (by kernel_rfl) ⟨rfl,rfl⟩) fun d1 m1 s3 k3=> ?_);refine aL rfl (cu (l:=bU) k3 nn (by decide) (by decide+kernel) rfl rfl (by walk_at "l") (by walk_at "l") (by walk_at "l") rfl (eT (by decide+kernel) (by walk_at "l") (by walk_at "l") (by kernel_rfl) ⟨rfl,rfl⟩) fun d2 m2 s4 k4=> ?_);walk_at "w"
   exact ⟨s4,rfl,k4,gU 2 (by kernel_rfl) (by kernel_rfl) _ m1 _ m2⟩
  ·refine ⟨_,_,rfl,rfl, ?_⟩
   try dsimp only
   refine aa (bC (bu (bj (aF rfl (af (by decide+kernel) (by walk_at "l") ⟨rfl,aj rfl ⟨_,rfl, ?_⟩⟩)))));rw [if_pos (by decide+kernel)];refine bj (aF rfl (af (by decide+kernel) (by walk_at "l") ⟨rfl,aj rfl ⟨_,rfl, ?_⟩⟩))
   cases decide ((j:Int)>1) with
   |true=>
    refine eC rfl ?_;refine dB ?_;refine eC rfl ?_;refine aa (cC (fq rfl ?_));iterate 4 walk_at "w"
    refine aL rfl (cu (l:=[dS "fetch",dS "push"]) k2 nn (by decide) (by decide+kernel) rfl rfl (by walk_at "l") (by walk_at "l") (by walk_at "l") rfl (c8 _ (by kernel_rfl) ⟨rfl,rfl⟩) fun d1 m1 s3 k3=> ?_);refine aL rfl (cu (l:=[dS "+a:b",dS "c",dS "^d",dS "e/*:f/*"]) k3 nn (by decide) (by decide+kernel) rfl rfl (by walk_at "l") (by walk_at "l") (by walk_at "l") rfl (c8 _ (by kernel_rfl) ⟨rfl,rfl⟩) fun d2 m2 s4 k4=> ?_);walk_at "w"
    exact ⟨s4,rfl,k4,gU 4 (by kernel_rfl) (by kernel_rfl) _ m1 _ m2⟩
   |false=>
    refine bD rfl (bD rfl ?_);refine aO ?_;refine aa (bC (bu (bj (aF rfl (af (by decide+kernel) (by walk_at "l") ⟨rfl,aj rfl ⟨_,rfl, ?_⟩⟩)))));rw [if_neg (by decide+kernel),if_neg (by simp)];refine aO ?_;refine aa (cC (fq rfl ?_));iterate 4 walk_at "w"
    refine aL rfl (cu (l:=[dS "flag",dS "Size"]) k2 nn (by decide) (by decide+kernel) rfl rfl (by walk_at "l") (by walk_at "l") (by walk_at "l") rfl (c8 _ (by kernel_rfl) ⟨rfl,rfl⟩) fun d1 m1 s3 k3=> ?_);refine aL rfl (cu (l:=bU) k3 nn (by decide) (by decide+kernel) rfl rfl (by walk_at "l") (by walk_at "l") (by walk_at "l") rfl (eT (by decide+kernel) (by walk_at "l") (by walk_at "l") (by kernel_rfl) ⟨rfl,rfl⟩) fun d2 m2 s4 k4=> ?_);walk_at "w"
    exact ⟨s4,rfl,k4,gU 6 (by kernel_rfl) (by kernel_rfl) _ m1 _ m2⟩
  ·refine ⟨_,_,rfl,rfl, ?_⟩
   try dsimp only
   refine aa (bC (bu (bj (aF rfl (af (by decide+kernel) (by walk_at "l") ⟨rfl,aj rfl ⟨_,rfl, ?_⟩⟩)))));rw [if_pos (by decide+kernel)];refine bj (aF rfl (af (by decide+kernel) (by walk_at "l") ⟨rfl,aj rfl ⟨_,rfl, ?_⟩⟩))
   cases decide ((j:Int)>1) with
   |true=>
    refine eC rfl ?_;refine dB ?_;refine eC rfl ?_;refine aa (cC (fq rfl ?_));iterate 4 walk_at "w"
    refine aL rfl (cu (l:=[dS "fetch",dS "push"]) k2 nn (by decide) (by decide+kernel) rfl rfl (by walk_at "l") (by walk_at "l") (by walk_at "l") rfl (c8 _ (by kernel_rfl) ⟨rfl,rfl⟩) fun d1 m1 s3 k3=> ?_);refine aL rfl (cu (l:=[dS "+a:b",dS "c",dS "^d",dS "e/*:f/*"]) k3 nn (by decide) (by decide+kernel) rfl rfl (by walk_at "l") (by walk_at "l") (by walk_at "l") rfl (c8 _ (by kernel_rfl) ⟨rfl,rfl⟩) fun d2 m2 s4 k4=> ?_);walk_at "w"
    exact ⟨s4,rfl,k4,gU 8 (by kernel_rfl) (by kernel_rfl) _ m1 _ m2⟩
   |false=>
    refine bD rfl (bD rfl ?_);refine aO ?_;refine aa (bC (bu (bj (aF rfl (af (by decide+kernel) (by walk_at "l") ⟨rfl,aj rfl ⟨_,rfl, ?_⟩⟩)))));rw [if_neg (by decide+kernel),if_neg (by simp)];refine aO ?_;refine aa (cC (fq rfl ?_));iterate 4 walk_at "w"
    refine aL rfl (cu (l:=[dS "flag",dS "Size"]) k2 nn (by decide) (by decide+kernel) rfl rfl (by walk_at "l") (by walk_at "l") (by walk_at "l") rfl (c8 _ (by kernel_rfl) ⟨rfl,rfl⟩) fun d1 m1 s3 k3=> ?_);refine aL rfl (cu (l:=bU) k3 nn (by decide) (by decide+kernel) rfl rfl (by walk_at "l") (by walk_at "l") (by walk_at "l") rfl (eT (by decide+kernel) (by walk_at "l") (by walk_at "l") (by kernel_rfl) ⟨rfl,rfl⟩) fun d2 m2 s4 k4=> ?_);walk_at "w"
    exact ⟨s4,rfl,k4,gU 10 (by kernel_rfl) (by kernel_rfl) _ m1 _ m2⟩
  ·refine ⟨_,_,rfl,rfl, ?_⟩
   try dsimp only
   refine aa (bC (bu (bj (aF rfl (af (by decide+kernel) (by walk_at "l") ⟨rfl,aj rfl ⟨_,rfl, ?_⟩⟩)))));rw [if_neg (by decide+kernel),if_neg (by simp)];refine aO ?_;refine aa (bC (bu (bj (aF rfl (af (by decide+kernel) (by walk_at "l") ⟨rfl,aj rfl ⟨_,rfl, ?_⟩⟩)))));rw [if_pos (by decide+kernel)];refine bj (aF rfl (af (by decide+kernel) (by walk_at "l") ⟨rfl,aj rfl ⟨_,rfl, ?_⟩⟩))
   cases decide ((j:Int)>1) with
   |true=>
    refine eC rfl ?_;refine dB ?_;refine eC rfl ?_;refine aa (cC (fq rfl ?_));iterate 4 walk_at "w"
    refine aL rfl (cu (l:=[dS "remote",dS "merge"]) k2 nn (by decide) (by decide+kernel) rfl rfl (by walk_at "l") (by walk_at "l") (by walk_at "l") rfl (c8 _ (by kernel_rfl) ⟨rfl,rfl⟩) fun d1 m1 s3 k3=> ?_);refine aL rfl (cu (l:=[dS "origin",dS "refs/x"]) k3 nn (by decide) (by decide+kernel) rfl rfl (by walk_at "l") (by walk_at "l") (by walk_at "l") rfl (c8 _ (by kernel_rfl) ⟨rfl,rfl⟩) fun d2 m2 s4 k4=> ?_);walk_at "w"
    exact ⟨s4,rfl,k4,gU 12 (by kernel_rfl) (by kernel_rfl) _ m1 _ m2⟩
   |false=>
    refine bD rfl (bD rfl ?_);refine aO ?_;refine aa (cC (fq rfl ?_));iterate 4 walk_at "w"
    refine aL rfl (cu (l:=[dS "flag",dS "Size"]) k2 nn (by decide) (by decide+kernel) rfl rfl (by walk_at "l") (by walk_at "l") (by walk_at "l") rfl (c8 _ (by kernel_rfl) ⟨rfl,rfl⟩) fun d1 m1 s3 k3=> ?_);refine aL rfl (cu (l:=bU) k3 nn (by decide) (by decide+kernel) rfl rfl (by walk_at "l") (by walk_at "l") (by walk_at "l") rfl (eT (by decide+kernel) (by walk_at "l") (by walk_at "l") (by kernel_rfl) ⟨rfl,rfl⟩) fun d2 m2 s4 k4=> ?_);walk_at "w"
    exact ⟨s4,rfl,k4,gU 14 (by kernel_rfl) (by kernel_rfl) _ m1 _ m2⟩
theorem wG{ns:ab}{ρ q:List (Str×Loc)}{r:ab}{x:Str}(hc:gf ns x=true)(hl:ρ.lookup x=some .ptr)(h:cf ns ρ r=some q):cf ns ρ ((x,.free)::r)=some ((x,.ptr)::q):=by
 show (if gf ns x then _ else none)=_;rw [hc,hl,h]<;>rfl
theorem DL{r:ba}{ns:ab}{S S1:St}{q:ey}{QL:List D→St→Prop}{items:List D}{ρ':List (Str×Loc)}(h1:dI q.sc=true)(h2:fQ ns q.sc.names=true)(hi:eG r ns q.iter S=some (.ok items,S1))(h5:cf ns S1.ρ q.sc.names=some ρ')(h6:items.length≤1000000)(h7:qi S1.σ ρ'=true)
  (h: ∃l S2,compLoop r q.sc.names q.target q.ifs q.elt items ⟨ρ',S1.σ⟩=some (.ok l,S2)∧S2.σ.isSome=S1.σ.isSome∧QL l ⟨S1.ρ,S2.σ⟩):WC r ns q S QL:=by
 obtain ⟨l,S2,h8,h9,hQ⟩:=h;refine ⟨l,_, ?_,hQ⟩;unfold dW;rw [if_pos ⟨h1,h2⟩];refine (ad hi).trans ?_;rw [h5];refine (if_pos ⟨h6,h7⟩).trans ?_;rw [ij h8];exact if_pos h9
theorem tN{ns:ab}{S:St}{fp p:Pos}{a:Expr}(hg:cG ns "range" S=true)(ha:aE a=true):dP ns (.Call (.Name "range" fp) [a] [] p) S= .range a:=by
 show (bif cG ns "range" S&& (aE a&&true) then nL "range" a else .plain)=_;rw [hg,ha]<;>rfl
theorem qO{r:ba}{ns:ab}{S S1:St}{f:Str}{fp p:Pos}{a:Expr}{m:Nat}(hk:dP ns (.Call (.Name f fp) [a] [] p) S= .range a)(h:r.ev ns a S=some (.ok (.d (.int (m:Nat))),S1))(hm:m≤1000):eG r ns (.Call (.Name f fp) [a] [] p) S=some (.ok (eR m),S1):=by
 show eX r ns (.Call (.Name f fp) [a] [] p) S=_;unfold eX;rw [hk];refine (ad (bJ h)).trans ?_;exact (if_pos ⟨Int.natCast_nonneg m,Int.ofNat_le.mpr (Nat.le_trans hm (by decide))⟩).trans rfl
theorem Fk{r:ba}{ns:ab}{S S1 S2:St}{t:Expr}{f:Str}{fp p:Pos}{a b:Expr}{l l':List D}(hk:dP ns (.Call (.Name f fp) [a,b] [] p) S= .zip a b)(ha:r.ev ns a S=some (.ok (.d (.tup l)),S1))(hb:r.ev ns b S1=some (.ok (.d (.lst l')),S2))(hl:l.length≤1000∧l.length=l'.length)(ht:qe t=true):f9 r ns t (.Call (.Name f fp) [a,b] [] p) S=some (.ok (oF l l'),S2):=by
 show jx r ns t (.Call (.Name f fp) [a,b] [] p) S=_;unfold jx;rw [hk];exact (ad (bJ ha)).trans ((ad (bJ hb)).trans (if_pos ⟨Nat.le_trans hl.1 (by decide),hl.2,ht⟩))
theorem FO{r:ba}{names:ab}{target elt:Expr}(P:List D→St→Prop)(items:List D): ∀(pre:List D) (S:St),P pre S→(∀pre d S,P pre S→∃S1,bR names target d S=some (.ok (),S1)∧∃y S2,r.ev names elt S1=some (.ok (.d y),S2)∧P (pre++ [y]) S2)→∃l S',compLoop r names target [] elt items S=some (.ok l,S')∧l.length=items.length∧P (pre++l) S':=by
 induction items with
 |nil=>exact fun pre S h0 _=>⟨[],S,rfl,rfl,by rw [List.append_nil];exact h0⟩
 |cons d rest ih=>
  intro pre S h0 h;obtain ⟨S1,h1,y,S2,h2,h3⟩:=h pre d S h0;obtain ⟨l,S',h4,h5,h6⟩:=ih _ S2 h3 h;refine ⟨y::l,S', ?_,by rw [List.length_cons,List.length_cons,h5],by rw [List.append_assoc] at h6;exact h6⟩;rw [pA,ad h1];refine (ad (m:=nt r names []) (b:=true) (S1:=S1) rfl).trans ?_;show Ev.bind _ _ S1=_;rw [ad (bJ h2),ad h4]<;>rfl
theorem DK{r:ba}{names:ab}{target elt:Expr}{items:List D}{S:St}{X:List D→St→Prop}(P:List D→St→Prop)(h0:P [] S)(h: ∀pre d S,P pre S→∃S1,bR names target d S=some (.ok (),S1)∧∃y S2,r.ev names elt S1=some (.ok (.d y),S2)∧P (pre++ [y]) S2)(hX: ∀l S',l.length=items.length→P l S'→X l S'): ∃l S2,compLoop r names target [] elt items S=some (.ok l,S2)∧X l S2:=by
 obtain ⟨l,S',e1,e2,e3⟩:=FO P items [] S h0 h;exact ⟨l,S',e1,hX l S' e2 e3⟩
theorem xN{r:ba}{ns:ab}{e:Expr}{S:St}{X:D→St→Prop}(h:WD r ns e S X): ∃y S2,r.ev ns e S=some (.ok (.d y),S2)∧X y S2:=let ⟨a,b,c,d⟩:=h;⟨a,b,c,d⟩
noncomputable def oZ(rs:List Rw):Prop:=rs.length≤4∧∀r∈rs,cW r
noncomputable def c7(rs:List Rw):D:=.lst (rs.map dn)
theorem B1{sl:Slot}(hs:dC sl){ρ:List (Str×Loc)}{rest:List Stmt}{Q:Fl→St→Prop}(hd:ρ.lookup ("deck":Str)=some .ptr)(hr:ρ.lookup ("range":Str)=none)
  (nP:rest= (ak (bg 77)).drop 2) (h: ∀(jV:List (List Rw)) dQ,jV.length=3→(∀rs∈jV,oZ rs)→dC dQ→WX (ah (run 9) 60) (ai (bg 77)).names rest ⟨upd ρ "lots" (.d (.lst (jV.map c7))),some dQ⟩ Q):WX (ah (run 9) 60) (ai (bg 77)).names ((ak (bg 77)).drop 1) ⟨ρ,some sl⟩ Q:=by
 subst nP;generalize em:bg 77=st at h ⊢;replace em:=em.symm;revert em
 conv=>lhs;rhs;unfold bg pw;whnf
 rintro rfl
 dsimp only [ai,ak,List.drop] at h ⊢;refine aa (oK (q:=⟨_,_,_,_,_,_⟩) rfl rfl (by decide+kernel) (DL (S1:=⟨ρ,some sl⟩) (items:=eR 3) (ρ':=[("deck",.ptr)]) (by decide+kernel) (by decide+kernel) ?_ ?_ (by decide) rfl ?_))
 ·refine qO ?_ (by kernel_rfl) (by decide)
  exact tN (by unfold cG;rw [hr];kernel_rfl) rfl
 ·exact bO (bO (qZ (qZ (wG (by decide+kernel) hd gv))))
 ·dsimp only
  refine DK (fun pre S=>∃(jV:List (List Rw)) (dQ:Slot),(S= ⟨[("deck",.ptr)],some dQ⟩∨∃d,S= ⟨[("deck",.ptr),lo "turn" d],some dQ⟩)∧dC dQ∧pre=jV.map c7∧∀rs∈jV,oZ rs) ⟨[],sl,.inl rfl,hs,rfl,fun _ m=>nomatch m⟩ (fun pre d S hS=> ?_) (fun l S' hl hS=> ?_)
  ·obtain ⟨jV,s1,hS,k1,rfl,kD⟩:=hS
   refine ⟨⟨[("deck",.ptr),lo "turn" d],some s1⟩, ?_, ?_⟩
   ·rcases hS with rfl|⟨d0,rfl⟩<;>rfl
   clear hS;obtain ⟨j,hj,s2,e2,k2⟩:=pu (n:=8) (many:=5) (by decide) (by decide) k1;refine xN (eU (q:=⟨_,_,_,_,_,_⟩) rfl (DL (S1:=⟨[("deck",.ptr),lo "turn" d],some s2⟩) (items:=eR j) (ρ':=[("deck",.ptr)]) (by decide+kernel) (by decide+kernel) ?_ (by kernel_rfl) ?_ rfl ?_))
   ·refine qO (by kernel_rfl) ?_ (by lia)
    have h1:=mq (fn:=run 9) (a:=857) (vs:=[.ptr,.d (.int (5:Nat))]) (S:=⟨[("deck",.ptr),lo "turn" d],some s1⟩) rfl rfl e2;rw [←h1]
    kernel_rfl
   ·unfold eR
    rw [List.length_map,List.length_range];lia
   ·dsimp only
    refine DK (fun pre S=>∃(rs:List Rw) (dQ:Slot),(S= ⟨[("deck",.ptr)],some dQ⟩∨∃d,S= ⟨[("deck",.ptr),lo "k" d],some dQ⟩)∧dC dQ∧pre=rs.map dn∧∀r∈rs,cW r) ⟨[],s2,.inl rfl,k2,rfl,fun _ m=>nomatch m⟩ (fun pre d S hS=> ?_) (fun l S' hl hS=> ?_)
    ·obtain ⟨rs,s3,hS,k3,rfl,D7⟩:=hS
     refine ⟨⟨[("deck",.ptr),lo "k" d],some s3⟩, ?_, ?_⟩
     ·rcases hS with rfl|⟨d0,rfl⟩<;>rfl
     obtain ⟨r,hr,s4,e4,k4⟩:=zm (n:=6) k3;refine xN (uw rfl rfl (by decide+kernel) (by walk_at "l") (by walk_at "l") (a:=871) (by kernel_rfl) (by kernel_rfl) (uo (by decide+kernel) (by walk_at "l") (bn ⟨rfl,_,_,_,rfl,e4, ?_⟩)));refine ⟨rs++ [r],s4,.inr ⟨d,rfl⟩,k4,by rw [List.map_append];rfl,fun x m=> ?_⟩;rcases List.mem_append.mp m with m|m
     ·exact D7 x m
     ·rw [List.mem_singleton.mp m];exact hr
    ·obtain ⟨rs,s3,hS,k3,rfl,D7⟩:=hS
     have De:rs.length≤4:=by
      have:(eR j).length=j:=by unfold eR;rw [List.length_map,List.length_range]
      rw [this,List.length_map] at hl;lia
     have hσ:S'.σ=some s3:=by rcases hS with rfl|⟨d0,rfl⟩<;>rfl
     rw [hσ];refine ⟨rfl,jV++ [rs],s3,.inr ⟨d,rfl⟩,k3,by rw [List.map_append];rfl,fun x m=> ?_⟩;rcases List.mem_append.mp m with m|m
     ·exact kD x m
     ·rw [List.mem_singleton.mp m];exact ⟨De,D7⟩
  ·obtain ⟨jV,s3,hS,k3,rfl,kD⟩:=hS
   have hσ:S'.σ=some s3:=by rcases hS with rfl|⟨d0,rfl⟩<;>rfl
   rw [hσ];exact ⟨rfl,_,rfl,h jV s3 (by rw [List.length_map] at hl;exact hl) kD k3⟩
theorem zv{n:Nat}(a b:D):run (n+1) 652 [.ptr,.d a,.d b] (some (.inst 655 []))=some (.ok .none,some (.inst 655 [("word",.d a),("config",.d b),("folder",.d (dS ""))])):=by kernel_rfl
theorem t7{n:Nat}(l:D):run (n+3) 681 [.ptr,.d l] (some (.inst 774 []))=some (.ok .none,some (.inst 774 [("levels",.d l),("loader",.d lB),("facts",.d i4)])):=by kernel_rfl
theorem zl(rs:List Rw):cK (rs.map et)=c7 rs:=by unfold cK c7;rw [List.map_map];rfl
theorem oO{rs:List Rw}(h:oZ rs):cY (rs.map et):=⟨by rw [List.length_map];exact Nat.le_trans h.1 (by decide),fun c m=>by
 obtain ⟨r,mr,rfl⟩:=List.mem_map.mp m;exact h.2 r mr⟩
theorem DS{x y:List D}(h:x.length+y.length≤1000):lz .Add (.lst x) (.lst y)=some (.lst (x++y)):=if_pos (Nat.le_trans h (by decide))
theorem px{k:Nat}{ρ:List (Str×Loc)}{σ:Option Slot}{ns:ab}{Q:D→St→Prop}{w:Str}{rs:List Rw}(hr:oZ rs){g1 g2 g3:Str}{q1 q2 q3 p1 p2 p3 n1 n2:Pos}
  (c1:(g1== ("ConfigLevel":Str))=true) (c2:(g2== ("Config":Str))=true) (c3:(g3== ("_law_file":Str))=true) (l1:ρ.lookup g1=none) (l2:ρ.lookup g2=none) (l3:ρ.lookup g3=none) (m1:ns.lookup g1=some .globalImplicit) (m2:ns.lookup g2=some .globalImplicit) (m3:ns.lookup g3=some .globalImplicit)
  (lw:ρ.lookup ("word":Str)=some (.d (.str w))) (ll:ρ.lookup ("lot":Str)=some (.d (c7 rs))) (hQ:Q (dr (w,rs.map et)) ⟨ρ,σ⟩):
  WD (ah (run 9) (k+6)) ns (.Call (.Name g1 q1) [.Name "word" n1,.Call (.Name g2 q2) [.Call (.Name g3 q3) [.Name "lot" n2] [] p3] [] p2] [] p1) ⟨ρ,σ⟩ Q:=by
 obtain rfl:g1= ("ConfigLevel":Str):=beq_iff_eq.mp c1;obtain rfl:g2= ("Config":Str):=beq_iff_eq.mp c2;obtain rfl:g3= ("_law_file":Str):=beq_iff_eq.mp c3;have hl:rs.length≤100:=Nat.le_trans hr.1 (by decide);refine kG rfl rfl (by decide+kernel) l1 m1 (a:=655) (by kernel_rfl) (c:=(cw.lookup 655).get (by kernel_rfl)) (by kernel_rfl) (aI rfl (af (by decide+kernel) lw (aI rfl ?_)));refine kG rfl rfl (by decide+kernel) l2 m2 (a:=575) (by kernel_rfl) (c:=(cw.lookup 575).get (by kernel_rfl)) (by kernel_rfl) (aI rfl ?_);refine fZ rfl rfl (by decide+kernel) l3 m3 (a:=876) (by kernel_rfl) (by kernel_rfl) (aI rfl (af (by decide+kernel) ll (bn ⟨rfl,_,zy (n:=8) hr.2 hl, ?_⟩)));refine bn ⟨rfl,_,wC (n:=1) hr.2 hl, ?_⟩;exact bn ⟨rfl,_,zv (n:=8) _ _,hQ⟩
theorem B7{sl:Slot}(hs:dC sl){sc:D}: ∃S3,lj (ah (run 9) 60) (ai (bg 77)).names ((ak (bg 77)).drop 1) ⟨[("script",.d sc),("deck",.ptr)],some sl⟩=some (.ok (.ret (.bool true)),S3):=by
 suffices hw:WX (ah (run 9) 60) (ai (bg 77)).names ((ak (bg 77)).drop 1) ⟨[("script",.d sc),("deck",.ptr)],some sl⟩ fun f S=>f= .ret (.bool true) by
  obtain ⟨f,S,e,rfl⟩:=hw;exact ⟨S,e⟩
 refine B1 hs (by walk_at "l") (by walk_at "l") rfl fun jV s1 aP kD k1=> ?_;obtain ⟨a,b,c,rfl⟩: ∃a b c,jV= [a,b,c]:=by
  match jV,aP with
  |[a,b,c],_=>exact ⟨a,b,c,rfl⟩
 have ha:=kD a (by simp);have hb:=kD b (by simp);have hc:=kD c (by simp);clear kD aP;have eu:upd [("script",.d sc),("deck",.ptr)] "lots" (.d (.lst ([a,b,c].map c7)))= ([("script",.d sc),("deck",.ptr),lo "lots" (.lst [c7 a,c7 b,c7 c])]:List (Str×Loc)):=by kernel_rfl
 rw [eu];clear eu
 let ls:List (Str×List Pc):=[("system",a.map et),("global",b.map et),("local",c.map et)]
 have MR:gO ls:=by
  refine ⟨Nat.le_of_ble_eq_true rfl, ?_,fun l m=> ?_⟩
  ·show (ao ls).length≤100
   have:ao ls=a.map et++ (b.map et++ (c.map et++ [])):=rfl;rw [this];simp only [List.length_append,List.length_map,List.length_nil];have:=ha.1;have:=hb.1;have:=hc.1;lia
  ·simp only [ls,List.mem_cons,List.not_mem_nil,or_false] at m
   rcases m with rfl|rfl|rfl
   ·exact oO ha
   ·exact oO hb
   ·exact oO hc
 have KS:cK (ao ls)= .lst (a.map dn++b.map dn++c.map dn):=by
  have e1:ao ls=a.map et++ (b.map et++ (c.map et++ [])):=rfl;unfold cK;rw [e1];simp only [List.map_append,List.map_map,List.append_nil,List.append_assoc,List.map_nil];rfl
 have hu:=tf MR;have hm:=nw MR;have hk:=mO (wO MR);have PI:=mO (wP (oO hc));rw [KS] at hu hm hk;rw [zl] at PI;generalize em:bg 77=st;replace em:=em.symm;revert em
 conv=>lhs;rhs;unfold bg pw;whnf
 rintro rfl
 try dsimp only [ai,ak,List.drop]
 iterate 2 walk_at "w"
 try dsimp only
 refine aa (xT (items:=oF [dS "system",dS "global",dS "local"] [c7 a,c7 b,c7 c]) (S1:=⟨[("script",.d sc),("deck",.ptr),lo "lots" (.lst [c7 a,c7 b,c7 c]),("levels",.own [])],some s1⟩) (Fk (S1:=⟨[("script",.d sc),("deck",.ptr),lo "lots" (.lst [c7 a,c7 b,c7 c]),("levels",.own [])],some s1⟩) (by kernel_rfl) (by kernel_rfl) (by kernel_rfl) ⟨Nat.le_of_ble_eq_true rfl,rfl⟩ rfl) (Nat.le_of_ble_eq_true rfl) ?_);refine oT (S1:=⟨[("script",.d sc),("deck",.ptr),lo "lots" (.lst [c7 a,c7 b,c7 c]),("levels",.own []),lo "word" (dS "system"),lo "lot" (c7 a)],some s1⟩) (by kernel_rfl) ?_;refine aa (jk rfl rfl (by walk_at "l") rfl (by walk_at "l") (px ha (by decide+kernel) (by decide+kernel) (by decide+kernel) (by walk_at "l") (by walk_at "l") (by walk_at "l") (by walk_at "l") (by walk_at "l") (by walk_at "l") (by walk_at "l") (by walk_at "l") ⟨_,_,by walk_at "l",by simp,by walk_at "u",aO ?_⟩));refine oT (S1:=⟨[("script",.d sc),("deck",.ptr),lo "lots" (.lst [c7 a,c7 b,c7 c]),("levels",.own ([dr ("system",a.map et)])),lo "word" (dS "global"),lo "lot" (c7 b)],some s1⟩) (by kernel_rfl) ?_;refine aa (jk rfl rfl (by walk_at "l") rfl (by walk_at "l") (px hb (by decide+kernel) (by decide+kernel) (by decide+kernel) (by walk_at "l") (by walk_at "l") (by walk_at "l") (by walk_at "l") (by walk_at "l") (by walk_at "l") (by walk_at "l") (by walk_at "l") ⟨_,_,by walk_at "l",by simp,by walk_at "u",aO ?_⟩));refine oT (S1:=⟨[("script",.d sc),("deck",.ptr),lo "lots" (.lst [c7 a,c7 b,c7 c]),("levels",.own ([dr ("system",a.map et),dr ("global",b.map et)])),lo "word" (dS "local"),lo "lot" (c7 c)],some s1⟩) (by kernel_rfl) ?_;refine aa (jk rfl rfl (by walk_at "l") rfl (by walk_at "l") (px hc (by decide+kernel) (by decide+kernel) (by decide+kernel) (by walk_at "l") (by walk_at "l") (by walk_at "l") (by walk_at "l") (by walk_at "l") (by walk_at "l") (by walk_at "l") (by walk_at "l") ⟨_,_,by walk_at "l",by simp,by walk_at "u",aO ?_⟩));refine DG ?_
 try dsimp only
 rw [show ([dr ("system",a.map et),dr ("global",b.map et)]++ [dr ("local",c.map et)]:List D)=ls.map dr from rfl];refine aa (sG (by kernel_rfl) (fq rfl (aL rfl (kG rfl rfl (by decide+kernel) (by walk_at "l") (by walk_at "l") (a:=774) (by kernel_rfl) (c:=(cw.lookup 774).get (by kernel_rfl)) (by kernel_rfl) ?_))));iterate 3 walk_at "w"
 refine ⟨rfl,_,t7 (n:=6) _, ?_⟩;have Mc:(a.map dn).length≤4:=by rw [List.length_map];exact ha.1
 have T3:(b.map dn).length≤4:=by rw [List.length_map];exact hb.1
 have TZ:(c.map dn).length≤4:=by rw [List.length_map];exact hc.1
 refine aL rfl (eP (eP (ft rfl ?_)));iterate 2 walk_at "w"
 refine ⟨0,.lst (a.map dn),rfl,by kernel_rfl,ft rfl ?_⟩;iterate 2 walk_at "w"
 refine ⟨1,.lst (b.map dn),rfl,by kernel_rfl,_,DS (by lia),ft rfl ?_⟩;iterate 2 walk_at "w"
 refine ⟨2,.lst (c.map dn),rfl,by kernel_rfl,_,DS (by rw [List.length_append];lia),lN ?_⟩;refine ⟨_,⟨[("script",.d sc),("deck",.ptr),lo "lots" (.lst [c7 a,c7 b,c7 c]),lo "levels" (.lst (ls.map dr)),lo "word" (dS "local"),lo "lot" (c7 c),lo "rows" (.lst (a.map dn++b.map dn++c.map dn)),lo "told" (aS ls)],some s1⟩,rfl,by kernel_rfl, ?_⟩;refine aa (bC (bu (dw (fO (cV rfl (fZ rfl rfl (by decide+kernel) (by walk_at "l") (by walk_at "l") (a:=921) (by kernel_rfl) (by kernel_rfl) ?_))))));iterate 5 walk_at "w"
 refine ⟨rfl,_,hk,_,rfl, ?_⟩;refine bD rfl ?_;refine dw (fO (cV rfl (fZ rfl rfl (by decide+kernel) (by walk_at "l") (by walk_at "l") (a:=921) (by kernel_rfl) (by kernel_rfl) (aI rfl (oX rfl (ft rfl ?_))))));iterate 2 walk_at "w"
 refine ⟨2,dr ("local",c.map et),rfl,by kernel_rfl,655,_,cL (c.map et),rfl,by kernel_rfl,by kernel_rfl,aI rfl (ft rfl ?_)⟩;iterate 2 walk_at "w"
 refine ⟨2,c7 c,rfl,by kernel_rfl,bn ⟨rfl,_,PI,_,rfl, ?_⟩⟩;refine bD rfl ?_;refine dB ?_;refine bD rfl ?_;refine aO ?_;refine aa (cC (yA (fZ rfl rfl (by decide+kernel) (by walk_at "l") (by walk_at "l") (a:=935) (by kernel_rfl) (by kernel_rfl) ?_)));iterate 5 walk_at "w"
 refine ⟨rfl,_,hu,rfl,fZ rfl rfl (by decide+kernel) (by walk_at "l") (by walk_at "l") (a:=940) (by kernel_rfl) (by kernel_rfl) ?_⟩;iterate 5 walk_at "w"
 exact ⟨rfl,_,hm,rfl⟩
noncomputable def fA(ns:List Int):List Int:=(sliceRange (sliceBounds none (some 48) none ns.length).1 (sliceBounds none (some 48) none ns.length).2.1 (sliceBounds none (some 48) none ns.length).2.2).filterMap (ns[·]?)
theorem oy(ns:List Int):(fA ns).length≤48:=by
 refine Nat.le_trans (List.length_filterMap_le _ _) ?_;rw [sliceBounds_plain,sliceRange_one,List.length_map,List.length_range];show clipAt ns.length 48 - 0≤48;unfold clipAt;rw [if_neg (by decide)];exact Nat.le_trans (Nat.sub_le _ _) (Int.toNat_le.mpr (Int.max_le.mpr ⟨by decide,Int.min_le_left _ _⟩))
theorem rN{ns:List Int}(h:ns.length≤1000):jZ (.lst (ns.map .int)) none (some 48)=some (.lst ((fA ns).map .int)):=by
 show (if (ns.map D.int).length≤sizeLine then some (D.lst (xz (ns.map D.int) none (some 48))) else none)=_;rw [if_pos (by rw [List.length_map];exact Nat.le_trans h (by decide))];unfold xz fA;rw [List.length_map,List.map_filterMap]
 congr 2
 refine congrArg (fun f=>List.filterMap f _) (funext fun k=> ?_);rw [List.getElem?_map]
theorem Fe{m:Int}:lz .Mult (.int m) (.int 31)=some (.int (m*31)):=by
 refine if_pos ?_;unfold un;rw [show decide (Builtin.Int.intBits 31≤64)=true from by decide+kernel,Bool.or_true]
theorem Ff{a:Int}:lz .Mod (.int a) (.int 1000003)=some (.int (a.fmod 1000003)):=rfl
theorem zW{ns:List Int}(aP:ns.length≤63): ∃am S2,0≤am∧am<2147483647∧lj (ah (run 8) 60) (ai (bg 62)).names ((ak (bg 62)).take 2) ⟨[((("script":Str),Loc.d (.lst (ns.map .int))):Str×Loc)],none⟩=some (.ok .next,S2)∧
  S2.ρ.lookup ("cells":Str)=some (.d (.lst ((fA ns).map .int)))∧S2.ρ.lookup ("mixed":Str)=some (.d (.int am)):=by
 suffices hw:WX (ah (run 8) 60) (ai (bg 62)).names ((ak (bg 62)).take 2) ⟨[((("script":Str),Loc.d (.lst (ns.map .int))):Str×Loc)],none⟩ fun f S=>f= .next∧∃am,0≤am∧am<2147483647∧S.ρ.lookup ("cells":Str)=some (.d (.lst ((fA ns).map .int)))∧S.ρ.lookup ("mixed":Str)=some (.d (.int am)) by
  obtain ⟨f,S,e,rfl,am,h1,h2,h3,h4⟩:=hw;exact ⟨am,S,h1,h2,e,h3,h4⟩
 have gQ:=rN (ns:=ns) (by lia);have nk:=oy ns;generalize fA ns=cells at gQ nk ⊢;generalize em:bg 62=st;replace em:=em.symm;revert em
 conv=>lhs;rhs;unfold bg pw;whnf
 rintro rfl
 try dsimp only [ai,ak,List.take]
 refine aa (sG (by kernel_rfl) (fq rfl (aL rfl (eU (q:=⟨_,_,_,_,_,_⟩) rfl (jX cells .int (fun _=>true) .int (fun c=>[lo "cell" (.int c)]) [] (by decide+kernel) (by decide+kernel) rfl ?_)))))
 try dsimp only
 refine uv rfl (af (by decide+kernel) (by walk_at "l") (x9 (oS (aj rfl ⟨none,some 48,_,rfl,fT (m:=48) (by decide),gQ, ?_⟩))));refine ⟨bw (by rw [List.length_map];lia),by lia,by kernel_rfl,rfl,fun x _=>rfl,fun x _ y=>rfl,fun x m=>rfl,fun x m _=>by kernel_rfl, ?_⟩;rw [List.filter_eq_self.mpr (fun _ _=>rfl)];iterate 3 walk_at "w"
 refine ⟨_,⟨[("script",.d (.lst (ns.map .int))),lo "mixed" (.int 7),lo "cells" (.lst (cells.map .int))],none⟩,rfl,by kernel_rfl, ?_⟩;refine aa (fM rfl ?_);refine af (by decide+kernel) (by walk_at "l") ⟨_,bw (by rw [List.length_map];lia),by rw [List.length_map];lia, ?_⟩;refine fk D.int (fun _ S=>∃m,0≤m∧m<1000003∧(S= ⟨[("script",.d (.lst (ns.map .int))),lo "mixed" (.int m),lo "cells" (.lst (cells.map .int))],none⟩∨∃d,S= ⟨[("script",.d (.lst (ns.map .int))),lo "mixed" (.int m),lo "cells" (.lst (cells.map .int)),lo "cell" d],none⟩)) cells (fun pre c post e S hS=> ?_) ⟨7,by decide,by decide,.inl rfl⟩ (fun S hS=> ?_)
 ·obtain ⟨m,h1,h2,hS⟩:=hS
  refine ⟨⟨[("script",.d (.lst (ns.map .int))),lo "mixed" (.int m),lo "cells" (.lst (cells.map .int)),lo "cell" (.int c)],none⟩, ?_, ?_⟩
  ·rcases hS with rfl|⟨d0,rfl⟩<;>rfl
  refine aa (bX rfl rfl rfl (by decide+kernel) (eP (eP (eP ?_))));iterate 2 walk_at "w"
  refine ⟨_,Fe, ?_⟩;walk_at "w"
  refine ⟨_,rfl, ?_⟩;walk_at "w"
  refine ⟨_,Ff, ?_⟩;iterate 2 walk_at "w"
  exact ⟨fun v e=>(nomatch e),_,Int.fmod_nonneg_of_pos _ (by decide),Int.fmod_lt_of_pos _ (by decide),.inr ⟨_,rfl⟩⟩
 ·obtain ⟨m,h1,h2,hS⟩:=hS
  refine aO ⟨rfl,m,h1,by lia, ?_⟩;rcases hS with rfl|⟨d0,rfl⟩<;>exact ⟨by walk_at "l",by walk_at "l"⟩
theorem zp:pE:=by
 intro ns aP;obtain ⟨am,S2,h1,h2,h3,h4,h5⟩:=zW aP;have hc:=oy ns;obtain ⟨S3,h6⟩:=B7 (sl:=.deck (fA ns).reverse am) ⟨_,_,rfl,h1,h2,by rw [List.length_reverse];lia⟩ (sc:=.lst (ns.map .int));exact ⟨fA ns,am,S2,S3,by lia,h3,h4,h5,h6⟩
theorem Qi:uC:=Bh zp
set_option backward.match.sparseCases true
theorem zu:Fast.tw12908688711261696721 PySem.Challenge.pw_pb0131_01=true:=by
 unfold Fast.tw12908688711261696721
 repeat' (with_reducible refine look_both ?_ ?_)
 all_goals decide+kernel
theorem BS:Fast.tw2436336058641802641 (Fast.tw2368527892694137696 PySem.Challenge.rw_pb0131_01)=true:=by
 unfold Fast.tw2436336058641802641
 repeat' (with_reducible refine look_both ?_ ?_)
 ·exact zu
 all_goals decide+kernel
theorem E3:Fast.tw17960256430627541270 (Fast.tw2368527892694137696 PySem.Challenge.rw_pb0131_01)=true:=by
 unfold Fast.tw17960256430627541270
 repeat' (with_reducible refine look_both ?_ ?_)
 ·exact BS
 all_goals decide+kernel
theorem Mk:OpenLaw.wellSaid PySem.Challenge.rw_pb0131_01=true:=(congrFun Fast.te9446332074065402090 _).trans (by
 unfold Fast.tw9446332074065402090
 repeat' (with_reducible refine look_both ?_ ?_)
 ·exact E3
 all_goals decide+kernel)
end Mine
theorem PySem.Challenge.cw_pb0131_01_holds : PySem.Challenge.rw_pb0131_01.Holds := by
  exact holds_law Mine.Mk fun said => Mine.Gl said (Mine.Lx Mine.Qi)
