/- The interpreter: code, calls, ranges, orders of evaluation. Nothing is asked of the program. -/
import Derived.Test.YtgdbpnpolelfoaaGreatDoorAiB
import Derived.RangeFuncIn
set_option linter.all false
namespace Go.AJ
open Go
variable [BN]
inductive PER (ρ:Ren):List PE→List PanicEntry→Prop
 |nil:PER ρ [] []
 |cons (v:V) (v':Value) (r:Bool) (l:List PE) (l':List PanicEntry) (h:VR ρ v v') (hl:PER ρ l l'):PER ρ (⟨v,r⟩::l) ({v:=v',recovered:=r}::l')
inductive MdR (ρ:Ren):Md→FrameMode→Prop
 |ret:MdR ρ .ret .returning
 |pan (ch:List PE) (ch':List PanicEntry) (h:PER ρ ch ch'):MdR ρ (.pan ch) (.panicking ch')
theorem PER.mono {ρ ρ':Ren} (hs:∀b r,ρ b=some r→ρ' b=some r) {l:List PE} {l':List PanicEntry} (h:PER ρ l l'):PER ρ' l l':=by
 induction h with
 |nil=>exact .nil
 |cons v v' r l l' h _ ih=>exact .cons _ _ _ _ _ (h.mono hs) ih
theorem MdR.mono {ρ ρ':Ren} (hs:∀b r,ρ b=some r→ρ' b=some r) {m:Md} {m':FrameMode} (h:MdR ρ m m'):MdR ρ' m m':=by
 cases h with
 |ret=>exact .ret
 |pan ch ch' h=>exact .pan _ _ (h.mono hs)
def CmR (ρ:Ren) (cm:Option Md) (kind:CallKind) (cf:FrameMode→List Frame) (μ:FrameMode):Prop:=match cm with
 |none=>kind=.normal
 |some m=>kind=.deferred∧(∃(c:Frame) (rest:List Frame),∀m,cf m={c with mode:=m}::rest)∧MdR ρ m μ
def DcR (ρ:Ren) (b:Frame) (cf:FrameMode→List Frame) (μ:FrameMode) (d:Dc) (ds:List Deferred):Prop:=match d with
 |.mk l cm=>b.roundOf=none∧DR ρ l ds∧CmR ρ cm b.kind cf μ
 |.rnd=>b.kind=.normal∧(∃l,b.roundOf=some l)∧ds= []
theorem CmR.mono {ρ ρ':Ren} (hs:∀b r,ρ b=some r→ρ' b=some r) {cm:Option Md} {kind:CallKind} {cf:FrameMode→List Frame} {μ:FrameMode} (h:CmR ρ cm kind cf μ):CmR ρ' cm kind cf μ:=by
 cases cm with
 |none=>exact h
 |some m=>exact ⟨h.1,h.2.1,h.2.2.mono hs⟩
theorem DcR.mono {ρ ρ':Ren} (hs:∀b r,ρ b=some r→ρ' b=some r) {b:Frame} {cf:FrameMode→List Frame} {μ:FrameMode} {d:Dc} {ds:List Deferred} (h:DcR ρ b cf μ d ds):DcR ρ' b cf μ d ds:=by
 cases d with
 |mk l cm=>exact ⟨h.1,h.2.1.mono hs,h.2.2.mono hs⟩
 |rnd=>exact h
def wV (P:Program) (ρ:Ren) (e:End) (kind:CallKind) (fr:Frame) (w:World):Prop:=match e with
 |.ret v=>∃v',VR ρ v v'∧fr.mode=.returning∧fr.defers= []∧fr.kind=kind∧∃fn,P.funcs[fr.fn]? =some fn∧(Go.results fn fr.tmps).run P w=.ok v' w
 |.pan ch=>∃ch',PER ρ ch ch'∧fr.mode=.panicking ch'∧fr.defers= []∧∃fn,P.funcs[fr.fn]? =some fn
def qc (ρ:Ren) (e:End) (c:Frame) (cs:List Frame) (w:World) (m:Machine):Prop:=match e with
 |.ret v=>∃v',VR ρ v v'∧m=lone (c.finish v') cs w
 |.pan ch=>∃ch',PER ρ ch ch'∧m=lone (c.raise ch') cs w
def CB (L:Loop) (args:Array Value):Array Value:=(L.params.zip args).foldl (fun tmps (t,a)=>tmps.setIfInBounds t a) L.tmps
structure Dp (P:Program) (X:Cx) (C:As):Prop where
 fn:∀f args cm h k,C (.fn f) args cm h k=true→(∀(as:Array Value) (w:World),(callFunc f as).run P w=.ok (.enter f as) w)∧
  ∀(ρ:Ren) (w:World) (args':Array Value) (kind:CallKind) (cf:FrameMode→List Frame) (μ:FrameMode),HR X ρ h w→VL ρ args args'.toList→CmR ρ cm kind cf μ→
   ∃e u h' ρ' w' μ' fr,k e u h'=true∧Steps P (lone (Frame.enter P f args' kind) (cf μ) w) (lone fr (cf μ') w')∧wV P ρ' e kind fr w'∧CmR ρ' u kind cf μ'∧HR X ρ' h' w'∧Ext ρ h w ρ' h' w'∧fr.fn=f
 round:∀l args h k,C (.round l) args none h k=true→∀(ρ:Ren) (w:World) (args':Array Value) (r:RB),ρ l=some r→HR X ρ h w→VL ρ args args'.toList→
  ∃L:Loop,w.heap[r.blk]? =some (.loop L)∧L.params.size=args'.size∧∀(c:Frame) (cs:List Frame),∃e h' ρ' w' m,k e none h'=true∧
   Steps P (lone (Frame.round r.blk L.fn (CB L args') L.assign L.body .normal) (c::cs) w) m∧qc ρ' e c cs w' m∧HR X ρ' h' w'∧Ext ρ h w ρ' h' w'
section
variable {P:Program} {X:Cx} {ρ:Ren} {h:Hp} {w:World} {t:T V} {a:Act} {b:Frame} {cf:FrameMode→List Frame} {μ:FrameMode} {todo:List Item} {ops:Array Oper} {i:Nat} {rest:List Nat} {o:Oper}
def Ub (P:Program) (X:Cx) (ρ:Ren) (h:Hp) (w:World) (b:Frame) (cf:FrameMode→List Frame) (μ:FrameMode) (a:Act) (dst:Option K) (t:T V) (k:KS) (p:KP) (odst:Option Tmp) (ops:Array Oper) (rest:List Nat) (todo:List Item) (m:Machine):Prop:=
 ∃ρ' h' w' μ' d',HR X ρ' h' w'∧Ext ρ h w ρ' h' w'∧∃ds,DcR ρ' b cf μ' d' ds∧
 ((∃v v',put dst v t (fun t'=>k t' d' h')=true∧VR ρ' v v'∧Steps P m (lone (b.atR (Act.put ⟨a.tmps,ds⟩ odst v') (.inRegion ops rest::todo)) (cf μ') w'))∨
  (∃ch ch' todo',p ch t d' h'=true∧PER ρ' ch ch'∧Steps P m (lone {b.atR ⟨a.tmps,ds⟩ todo' with mode:=.panicking ch'} (cf μ') w')))
theorem Gq {v:Value} {w':World} {nx:Next} (ho:ops[i]? =some o) (hw:Region.wanted o (yielded ops a.tmps)=true) (hd:∀c,o.op≠.defer c) (hr:(execOp a.eval o).run P w=.ok nx w')
  (hn:nx=.value v∨(nx=.skip∧v=undef)) (cs:List Frame):
  step P (lone (b.atR a (.inRegion ops (i::rest)::todo)) cs w)=.next (lone (b.atR (a.put o.dst v) (.inRegion ops rest::todo)) cs w'):=by
 have hf:=Frame.finish_atR b a ops i rest todo v;rw[ho] at hf;simp only[Option.bind_some] at hf;rw[←hf];refine step_lone_go ?_;rw[stepGR_op ho hw,Oper.semAt_eq _ _ _ hd];rcases hn with rfl|⟨rfl,rfl⟩
 ·simp [stepG.apply,Sem.runT_eq,hr]
 ·simp [stepG.apply,Sem.runT_eq,hr]
theorem Re {v:Value} {w':World} (ho:ops[i]? =some o) (hw:Region.wanted o (yielded ops a.tmps)=true) (hd:∀c,o.op≠.defer c) (hr:(execOp a.eval o).run P w=.halt (.panic v) w') (cs:List Frame):
  step P (lone (b.atR a (.inRegion ops (i::rest)::todo)) cs w)=.next (lone {b.atR a (.inRegion ops (i::rest)::todo) with mode:=.panicking [{v,recovered:=false}]} cs w'):=by
 refine step_lone_go ?_;rw[stepGR_op ho hw,Oper.semAt_eq _ _ _ hd];simp [stepG.apply,Sem.runT_eq,hr,Frame.raise_atR]
theorem Rf {f:Nat} {args:Array Value} {w':World} (ho:ops[i]? =some o) (hw:Region.wanted o (yielded ops a.tmps)=true) (hd:∀c,o.op≠.defer c) (hr:(execOp a.eval o).run P w=.ok (.enter f args) w') (cs:List Frame):
  step P (lone (b.atR a (.inRegion ops (i::rest)::todo)) cs w)=.next (lone (Frame.enter P f args .normal) (b.atR a (.inRegion ops (i::rest)::todo)::cs) w'):=by
 refine step_lone_go ?_;rw[stepGR_op ho hw,Oper.semAt_eq _ _ _ hd];simp [stepG.apply,Sem.runT_eq,hr,Frame.atR]
theorem Rd {l f:Nat} {tmps:Array Value} {as bd:Code} {w':World} (ho:ops[i]? =some o) (hw:Region.wanted o (yielded ops a.tmps)=true) (hd:∀c,o.op≠.defer c) (hr:(execOp a.eval o).run P w=.ok (.round l f tmps as bd) w') (cs:List Frame):
  step P (lone (b.atR a (.inRegion ops (i::rest)::todo)) cs w)=.next (lone (Frame.round l f tmps as bd .normal) (b.atR a (.inRegion ops (i::rest)::todo)::cs) w'):=by
 refine step_lone_go ?_;rw[stepGR_op ho hw,Oper.semAt_eq _ _ _ hd];simp [stepG.apply,Sem.runT_eq,hr]
theorem Rg {dd:Deferred} {w':World} (ho:ops[i]? =some o) (hw:Region.wanted o (yielded ops a.tmps)=true) (hro:b.roundOf=none) (hr:(execOp a.eval o).run P w=.ok (.defer dd) w') (cs:List Frame):
  step P (lone (b.atR a (.inRegion ops (i::rest)::todo)) cs w)=.next (lone (b.atR (Act.put ⟨a.tmps,dd::a.defers⟩ o.dst undef) (.inRegion ops rest::todo)) cs w'):=by
 have hf:=Frame.finish_atR b ⟨a.tmps,dd::a.defers⟩ ops i rest todo undef;rw[ho] at hf;simp only[Option.bind_some] at hf;rw[←hf];refine step_lone_go ?_;rw[stepGR_op ho hw,hro,Oper.semAt_none];simp [stepG.apply,Sem.runT_eq,hr,Frame.atR]
theorem F4 (v:Value) (ho:ops[i]? =some o):(b.atR a (.inRegion ops (i::rest)::todo)).finish v=b.atR (a.put o.dst v) (.inRegion ops rest::todo):=by have hf:=Frame.finish_atR b a ops i rest todo v;rw[ho] at hf;simpa using hf
theorem Na {C:As} (hC:Dp P X C) {dst:Option K} {d:Dc} {k:KS} {p:KP} {f:Nat} {args:List V} {args':Array Value} (ho:ops[i]? =some o) (hw:Region.wanted o (yielded ops a.tmps)=true) (hnd:∀c,o.op≠.defer c)
  (H:HR X ρ h w) (hd:DcR ρ b cf μ d a.defers) (ha:VL ρ args args'.toList) (hr:(execOp a.eval o).run P w=(callFunc f args').run P w) (e:df C dst f args t d h k p=true):
  Ub P X ρ h w b cf μ a dst t k p o.dst ops rest todo (lone (b.atR a (.inRegion ops (i::rest)::todo)) (cf μ) w):=by
 obtain ⟨hent,hall⟩:=hC.fn _ _ _ _ _ e;rw[hent] at hr;obtain ⟨e1,u,h',ρ',w',μ',fr,hk,hs,hend,hcm,H',E,_⟩:=hall ρ w args' .normal (fun _=>b.atR a (.inRegion ops (i::rest)::todo)::cf μ) .run H ha rfl;have h1:=Rf (b:=b) (rest:=rest) (todo:=todo) ho hw hnd hr (cf μ);refine ⟨ρ',h',w',μ,d,H',E,a.defers,hd.mono E.sub,?_⟩;cases e1 with
 |ret v=>obtain ⟨v',hv,hm,hds,hkd,fn,hfn,hres⟩:=hend;refine .inl ⟨v,v',hk,hv,?_⟩;have h2:=step_leave_returned (P:=P) (fr:=fr) (c:=b.atR a (.inRegion ops (i::rest)::todo)) (cs:=cf μ) (w:=w') (v:=v') ⟨hm,hds,hkd,fn,hfn,hres⟩;rw[F4 v' ho] at h2;exact .head h1 (.trans hs (.one h2))
 |pan ch=>obtain ⟨ch',hper,hm,hds,fn,hfn⟩:=hend;refine .inr ⟨ch,ch',.inRegion ops (i::rest)::todo,hk,hper,?_⟩;have h2:=step_leave_panicked (P:=P) (fr:=fr) (c:=b.atR a (.inRegion ops (i::rest)::todo)) (cs:=cf μ) (w:=w') (chain:=ch') ⟨hm,hds,fn,hfn⟩;rw[Frame.raise_atR] at h2;exact .head h1 (.trans hs (.one h2))
theorem Jm {dst:Option K} {d:Dc} {k:KS} {p:KP} {v:V} {v':Value} (ho:ops[i]? =some o) (hw:Region.wanted o (yielded ops a.tmps)=true) (hnd:∀c,o.op≠.defer c)
  (H:HR X ρ h w) (hd:DcR ρ b cf μ d a.defers) (hv:VR ρ v v') (hr:(execOp a.eval o).run P w=(do pure (.value (←Instr.panic v')):Sem Next).run P w) (e:Oz v t d h p=true):
  Ub P X ρ h w b cf μ a dst t k p o.dst ops rest todo (lone (b.atR a (.inRegion ops (i::rest)::todo)) (cf μ) w):=by
 cases hv with
 |ifc ty u u' hu=>
  have hr':(execOp a.eval o).run P w=.halt (.panic (.iface ty u')) w:=by rw[hr];simp [Instr.panic,goPanic,Sem.run]
  exact ⟨ρ,h,w,μ,d,H,Ext.refl _ _ _,a.defers,hd,.inr ⟨_,_,.inRegion ops (i::rest)::todo,e,.cons _ _ _ _ _ (.ifc _ _ _ hu) .nil,.one (Re ho hw hnd hr' (cf μ))⟩⟩
 |_=>simp [Oz] at e
theorem MD {dst:Option K} {d:Dc} {k:KS} {p:KP} (ho:ops[i]? =some o) (hw:Region.wanted o (yielded ops a.tmps)=true) (hnd:∀c,o.op≠.defer c)
  (H:HR X ρ h w) (hd:DcR ρ b cf μ d a.defers) (hr:(execOp a.eval o).run P w=.ok .recover w) (e:DH dst t d h k=true):
  Ub P X ρ h w b cf μ a dst t k p o.dst ops rest todo (lone (b.atR a (.inRegion ops (i::rest)::todo)) (cf μ) w):=by
 cases d with
 |rnd=>simp [DH] at e
 |mk ds cm=>
  obtain ⟨hro,hdr,hcm⟩:=hd
  have none:tryRecover (b.atR a (.inRegion ops (i::rest)::todo)) (cf μ)=none→
    step P (lone (b.atR a (.inRegion ops (i::rest)::todo)) (cf μ) w)=.next (lone (b.atR (a.put o.dst .nilIface) (.inRegion ops rest::todo)) (cf μ) w):=fun hn=>by
   rw[←F4 .nilIface ho];refine step_lone_go ?_;rw[stepGR_op ho hw,Oper.semAt_eq _ _ _ hnd];have hro':(b.atR a (.inRegion ops (i::rest)::todo)).roundOf=Option.none:=hro;simp [stepG.apply,Sem.runT_eq,hr,hro',hn]
  have some:∀v cs',tryRecover (b.atR a (.inRegion ops (i::rest)::todo)) (cf μ)=some (v,cs')→
    step P (lone (b.atR a (.inRegion ops (i::rest)::todo)) (cf μ) w)=.next (lone (b.atR (a.put o.dst v) (.inRegion ops rest::todo)) cs' w):=fun v cs' hn=>by
   rw[←F4 v ho];refine step_lone_go ?_;rw[stepGR_op ho hw,Oper.semAt_eq _ _ _ hnd];have hro':(b.atR a (.inRegion ops (i::rest)::todo)).roundOf=Option.none:=hro;simp [stepG.apply,Sem.runT_eq,hr,hro',hn]
  cases cm with
  |none=>have hk:b.kind=.normal:=hcm;refine ⟨ρ,h,w,μ,.mk ds Option.none,H,Ext.refl _ _ _,a.defers,⟨hro,hdr,hcm⟩,.inl ⟨.nili,.nilIface,e,.nili,.one (none ?_)⟩⟩;simp [tryRecover,Frame.atR,hk]
  |some m=>
   obtain ⟨hk,⟨c,rs,hcf⟩,hm⟩:=hcm;cases hm with
   |ret=>refine ⟨ρ,h,w,.returning,.mk ds (Option.some .ret),H,Ext.refl _ _ _,a.defers,⟨hro,hdr,hk,⟨c,rs,hcf⟩,.ret⟩,.inl ⟨.nili,.nilIface,e,.nili,.one (none ?_)⟩⟩;simp [tryRecover,Frame.atR,hk,hcf]
   |pan ch ch' hper=>
    cases hper with
    |nil=>simp [DH] at e
    |cons v v' r l l' hv hl=>
     cases r with
     |true=>refine ⟨ρ,h,w,.panicking ({v:=v',recovered:=true}::l'),.mk ds (Option.some (.pan (⟨v,true⟩::l))),H,Ext.refl _ _ _,a.defers,⟨hro,hdr,hk,⟨c,rs,hcf⟩,.pan _ _ (.cons _ _ _ _ _ hv hl)⟩,.inl ⟨.nili,.nilIface,e,.nili,.one (none ?_)⟩⟩;simp [tryRecover,Frame.atR,hk,hcf]
     |false=>refine ⟨ρ,h,w,.panicking ({v:=v',recovered:=true}::l'),.mk ds (Option.some (.pan (⟨v,true⟩::l))),H,Ext.refl _ _ _,a.defers,⟨hro,hdr,hk,⟨c,rs,hcf⟩,.pan _ _ (.cons _ _ _ _ _ hv hl)⟩,.inl ⟨v,v',e,hv,.one (some _ _ ?_)⟩⟩;simp [tryRecover,Frame.atR,hk,hcf]
theorem TS {C:As} (hC:Dp P X C) {dst:Option K} {d:Dc} {k:KS} {p:KP} {f:V} {f':Value} {args:List V} {args':Array Value} (ho:ops[i]? =some o) (hw:Region.wanted o (yielded ops a.tmps)=true) (hnd:∀c,o.op≠.defer c)
  (H:HR X ρ h w) (hd:DcR ρ b cf μ d a.defers) (hf:VR ρ f f') (ha:VL ρ args args'.toList) (hr:(execOp a.eval o).run P w=(do let d←Deferred.ofValue f' args';invoke d.target d.args:Sem Next).run P w)
  (e:GJ C dst f args t d h k p=true):Ub P X ρ h w b cf μ a dst t k p o.dst ops rest todo (lone (b.atR a (.inRegion ops (i::rest)::todo)) (cf μ) w):=by
 cases hf with
 |fn g fs cs fs' cs' hfs hcs=>refine Na hC ho hw hnd H hd (args':=(⟨fs'⟩:Array Value)++args'++⟨cs'⟩) (by simpa using hfs.append (ha.append hcs)) ?_ e;rw[hr];simp [Deferred.ofValue,invoke]
 |yld l r hl=>
  obtain ⟨L,hL,hsz,hall⟩:=hC.round _ _ _ _ e ρ w args' r hl H ha;obtain ⟨e1,h',ρ',w',m,hk,hs,hend,H',E⟩:=hall (b.atR a (.inRegion ops (i::rest)::todo)) (cf μ);have hr':(execOp a.eval o).run P w=.ok (.round r.blk L.fn (CB L args') L.assign L.body) w:=by
   rw[hr];have hg:(Instr.getLoop r.blk).run P w=.ok L w:=by simp [Instr.getLoop,getObj,Sem.run,hL]
   simp [Deferred.ofValue,invoke,Instr.yield,hg,hsz,CB]
  have h1:=Rd (b:=b) (rest:=rest) (todo:=todo) ho hw hnd hr' (cf μ);refine ⟨ρ',h',w',μ,d,H',E,a.defers,hd.mono E.sub,?_⟩;cases e1 with
  |ret v=>obtain ⟨v',hv,rfl⟩:=hend;rw[F4 v' ho] at hs;exact .inl ⟨v,v',hk,hv,.head h1 hs⟩
  |pan ch=>obtain ⟨ch',hper,rfl⟩:=hend;rw[Frame.raise_atR] at hs;exact .inr ⟨ch,ch',.inRegion ops (i::rest)::todo,hk,hper,.head h1 hs⟩
 |_=>simp [GJ] at e
theorem TG {dst:Option K} {d:Dc} {k:KS} {p:KP} {f:V} {f':Value} {args:List V} {args':Array Value} (ho:ops[i]? =some o) (hw:Region.wanted o (yielded ops a.tmps)=true)
  (H:HR X ρ h w) (hd:DcR ρ b cf μ d a.defers) (hf:VR ρ f f') (ha:VL ρ args args'.toList) (hr:(execOp a.eval o).run P w=(do let d←Deferred.ofValue f' args';pure (.defer d):Sem Next).run P w)
  (e:(GI f args d fun d'=>put dst und t fun t'=>k t' d' h)=true):Ub P X ρ h w b cf μ a dst t k p o.dst ops rest todo (lone (b.atR a (.inRegion ops (i::rest)::todo)) (cf μ) w):=by
 cases hf with
 |fn g fs cs fs' cs' hfs hcs=>
  cases d with
  |rnd=>simp [GI] at e
  |mk ds cm=>
   obtain ⟨hro,hdr,hcm⟩:=hd;have hr':(execOp a.eval o).run P w=.ok (.defer ⟨.fn (.func g) ⟨cs'⟩,(⟨fs'⟩:Array Value)++args'⟩) w:=by rw[hr];simp [Deferred.ofValue]
   have hdr':DR ρ (.call g (fs++(args++cs))::ds) (⟨.fn (.func g) ⟨cs'⟩,(⟨fs'⟩:Array Value)++args'⟩::a.defers):=.call g _ ⟨cs'⟩ ((⟨fs'⟩:Array Value)++args') _ _ (by simpa using hfs.append (ha.append hcs)) hdr;exact ⟨ρ,h,w,μ,.mk (.call g (fs++(args++cs))::ds) cm,H,Ext.refl _ _ _,⟨.fn (.func g) ⟨cs'⟩,(⟨fs'⟩:Array Value)++args'⟩::a.defers,⟨hro,hdr',hcm⟩,.inl ⟨und,undef,e,.tup [] [] .nil,.one (Rg ho hw hro hr' (cf μ))⟩⟩
 |_=>simp [GI] at e
theorem aW (hP:POK P X) {C:As} (hC:Dp P X C) {op:AOp} {dst:Option K} {d:Dc} {k:KS} {p:KP} (ho:ops[i]? =some o) (hw:Region.wanted o (yielded ops a.tmps)=true)
  (hop:cOp X.T X.ext o.op=some op) (hE:∀x∈o.op.operands.toList,EvR ρ t a x) (H:HR X ρ h w) (hd:DcR ρ b cf μ d a.defers) (e:Bd C op dst t d h k p=true):
  Ub P X ρ h w b cf μ a dst t k p o.dst ops rest todo (lone (b.atR a (.inRegion ops (i::rest)::todo)) (cf μ) w):=by
 have nodefer:(∀f as,op≠.defer f as)→∀c,o.op≠.defer c:=by
  intro hnd c hc;rw[hc] at hop;simp only[cOp] at hop;split at hop
  ·simp only[oB] at hop;obtain ⟨_,_,_,_,hq⟩:=hop;exact hnd _ _ hq.symm
  ·cases hop
 cases hctl:zw op with
 |false=>obtain ⟨v,v',ρ',h',w',nx,hk,hr,hn,hv,H',E⟩:=eX hP H hop hE hctl e;refine ⟨ρ',h',w',μ,d,H',E,a.defers,hd.mono E.sub,.inl ⟨v,v',hk,hv,.one ?_⟩⟩;exact Gq ho hw (nodefer (fun f as hq=>by subst hq;cases hctl)) hr hn (cf μ)
 |true=>
  have callE:∀cl:Call,o.op=.call cl→∀f,cl.callee=.value f→∀as,cXs cl.args.toList=some as→VL ρ (evs t as) (cl.args.map a.eval).toList:=fun cl hcl f hcal as has=>by have:=Ik (ρ:=ρ) (t:=t) (a:=a) (fun x hx=>hE x (by rw[hcl];simp [Op.operands,Call.operands,hcal];exact .inr (by simpa using hx))) has;simpa using this
  cases hoo:o.op with
  |panic x=>rw[hoo] at hop hE;simp only[cOp,oB] at hop;obtain ⟨x',hx,rfl⟩:=hop;exact Jm ho hw (nodefer (by simp)) H hd (hE x (by simp [Op.operands]) _ hx) (by simp only[execOp,hoo]) e
  |defer cl=>
   rw[hoo] at hop hE;simp only[cOp] at hop;split at hop
   ·rename_i f hcal;simp only[oB] at hop;obtain ⟨f',hf,as,has,rfl⟩:=hop;have hall:=Ik (ρ:=ρ) (t:=t) (a:=a) (fun x hx=>hE x (by simp [Op.operands,Call.operands,hcal];exact .inr (by simpa using hx))) has;refine TG (args':=cl.args.map a.eval) ho hw H hd (hE f (by simp [Op.operands,Call.operands,hcal]) _ hf) (by simpa using hall) ?_ e;simp [execOp,hoo,resolve,hcal]
   ·cases hop
  |call cl=>
   have hnd:∀c,o.op≠.defer c:=fun c hc=>by rw[hoo] at hc;cases hc
   have hE':=hE;rw[hoo] at hop hE';simp only[cOp] at hop;split at hop
   ·rename_i bb hcal;split at hop
    ·cases hop;exact MD ho hw hnd H hd (by simp [execOp,hoo,resolve,hcal,invoke,builtin]) e
    ·rename_i x hx0;simp only[oB] at hop;obtain ⟨x',hx,rfl⟩:=hop;have hargs:cl.args= #[x]:=by apply Array.ext';simpa using hx0
     exact Jm ho hw hnd H hd (hE' x (by simp [Op.operands,Call.operands,hcal,hargs]) _ hx) (by simp [execOp,hoo,resolve,hcal,invoke,builtin,hargs]) e
    ·exfalso;simp only[Option.bind_eq_bind,Option.bind_eq_some_iff] at hop;obtain ⟨as,has,hop⟩:=hop;unfold Eb at hop;split at hop
     ·unfold Iz at hop;split at hop
      ·split at hop
       ·split at hop<;>cases hop<;>cases hctl
       ·cases hop
      ·cases hop
     ·unfold Aah at hop;split at hop<;>cases hop<;>cases hctl
     ·unfold Aak at hop;split at hop<;>cases hop
      cases hctl
     ·cases hop;cases hctl
     ·cases hop;cases hctl
     ·unfold d0 at hop
      (repeat' split at hop)<;>cases hop<;>cases hctl
     ·unfold Aaj at hop
      (repeat' split at hop)<;>cases hop<;>cases hctl
     ·cases hop
   ·rename_i f hcal;simp only[Option.bind_eq_bind,Option.pure_def,Option.bind_eq_some_iff] at hop;obtain ⟨as,has,hop⟩:=hop;have hall:=callE cl hoo f hcal as has;split at hop
    ·rename_i g;split at hop
     ·split at hop
      ·cases hop;cases hctl
      ·cases hop
     ·cases hop;refine Na hC ho hw hnd H hd hall ?_ e;simp [execOp,hoo,resolve,hcal,Deferred.ofValue,Act.eval,invoke]
    ·rename_i g;cases hop;refine TS (f':=a.eval (.tmp g)) (args':=cl.args.map a.eval) hC ho hw hnd H hd (hE' (.tmp g) (by simp [Op.operands,Call.operands,hcal]) _ rfl) hall ?_ e;simp [execOp,hoo,resolve,hcal]
    ·cases hop
   ·cases hop
  |move p0=>rw[hoo] at hop;simp only[cOp,oB] at hop;obtain ⟨_,_,rfl⟩:=hop;cases hctl
  |assign p0=>rw[hoo] at hop;simp only[cOp,oB] at hop;obtain ⟨_,_,rfl⟩:=hop;cases hctl
  |pick p0 p1 p2=>rw[hoo] at hop;simp only[cOp,oB] at hop;obtain ⟨_,_,_,_,_,_,rfl⟩:=hop;cases hctl
  |nilCheck p0=>rw[hoo] at hop;simp only[cOp,oB] at hop;obtain ⟨_,_,rfl⟩:=hop;cases hctl
  |extract p0 p1=>rw[hoo] at hop;simp only[cOp,oB] at hop;obtain ⟨_,_,rfl⟩:=hop;cases hctl
  |load p0 p1=>rw[hoo] at hop;simp only[cOp,oB] at hop;obtain ⟨_,_,_,_,_,_,hop⟩:=hop;split at hop<;>cases hop<;>cases hctl
  |fieldAddr p0 p1 p2=>
   rw[hoo] at hop;simp only[cOp,oB] at hop;obtain ⟨_,_,hop⟩:=hop;split at hop
   ·simp only[Option.bind_eq_some_iff] at hop;obtain ⟨_,_,_,_,_,_,hop⟩:=hop;split at hop<;>cases hop
    cases hctl
   ·cases hop
  |binOp p0 p1 p2 p3 p4=>
   rw[hoo] at hop;simp only[cOp,oB] at hop;obtain ⟨d',_,_,_,_,_,hop⟩:=hop;split at hop
   ·simp only[oB] at hop;obtain ⟨_,_,rfl⟩:=hop;cases hctl
   ·simp only[oB] at hop;obtain ⟨_,_,rfl⟩:=hop;cases hctl
   ·split at hop
    ·simp only[oB] at hop;obtain ⟨_,_,rfl⟩:=hop;cases hctl
    ·simp only[oB] at hop;obtain ⟨_,_,rfl⟩:=hop;cases hctl
    ·cases hop
  |build p0 p1=>
   rw[hoo] at hop;simp only[cOp,oB] at hop;obtain ⟨_,_,_,_,hop⟩:=hop;split at hop
   ·split at hop
    ·simp only[oB] at hop;obtain ⟨_,_,rfl⟩:=hop;cases hctl
    ·cases hop
   ·simp only[oB] at hop;obtain ⟨_,_,_,_,rfl⟩:=hop;cases hctl
   ·cases hop
  |unOp p0 p1 p2=>rw[hoo] at hop;simp only[cOp,oB] at hop;obtain ⟨_,_,hop⟩:=hop;split at hop<;>cases hop<;>cases hctl
  |indexAddr p0 p1 p2=>
   rw[hoo] at hop;simp only[cOp,oB] at hop;obtain ⟨_,_,_,_,_,_,hop⟩:=hop;split at hop
   ·simp only[oB] at hop;obtain ⟨_,_,rfl⟩:=hop;cases hctl
   ·simp only[oB] at hop;obtain ⟨_,_,rfl⟩:=hop;cases hctl
   ·cases hop
  |index p0 p1 p2=>
   rw[hoo] at hop;simp only[cOp,oB] at hop;obtain ⟨_,_,_,_,_,_,hop⟩:=hop;split at hop
   ·cases hop;cases hctl
   ·simp only[oB] at hop;obtain ⟨_,_,_,_,rfl⟩:=hop;cases hctl
   ·cases hop
  |field p0 p1 p2=>
   rw[hoo] at hop;simp only[cOp,oB] at hop;obtain ⟨_,_,hop⟩:=hop;split at hop
   ·simp only[oB] at hop;obtain ⟨_,_,_,_,_,_,_,_,rfl⟩:=hop;cases hctl
   ·cases hop
  |lookup p0 p1 p2 p3=>
   rw[hoo] at hop;simp only[cOp,oB] at hop;obtain ⟨_,_,hop⟩:=hop;split at hop
   ·simp only[oB] at hop;obtain ⟨_,_,_,_,_,_,_,_,_,_,rfl⟩:=hop;cases hctl
   ·cases hop
  |makeFunc p0 p1 p2=>
   rw[hoo] at hop;cases p0 with
   |func f=>simp only[cOp,oB] at hop;obtain ⟨_,_,_,_,rfl⟩:=hop;cases hctl
   |_=>simp [cOp] at hop
  |convert p0 p1 p2=>
   rw[hoo] at hop;simp only[cOp,oB] at hop;obtain ⟨_,_,_,_,_,_,hop⟩:=hop;unfold d6 at hop
   (repeat' split at hop)<;>cases hop<;>cases hctl
  |makeInterface p0 p1=>
   rw[hoo] at hop;simp only[cOp,oB] at hop;obtain ⟨_,_,_,_,hop⟩:=hop;split at hop<;>cases hop
   cases hctl
  |alloc p0=>rw[hoo] at hop;simp only[cOp,oB] at hop;obtain ⟨_,_,rfl⟩:=hop;cases hctl
  |box p0 p1=>rw[hoo] at hop;simp only[cOp,oB] at hop;obtain ⟨_,_,rfl⟩:=hop;cases hctl
  |store p0 p1 p2=>rw[hoo] at hop;simp only[cOp,oB] at hop;obtain ⟨_,_,_,_,_,_,rfl⟩:=hop;cases hctl
  |mapUpdate p0 p1 p2 p3=>
   rw[hoo] at hop;simp only[cOp,oB] at hop;obtain ⟨_,_,hop⟩:=hop;split at hop
   ·simp only[oB] at hop;obtain ⟨_,_,_,_,_,_,_,_,_,_,rfl⟩:=hop;cases hctl
   ·cases hop
  |insert p0 p1 p2 p3=>
   rw[hoo] at hop;simp only[cOp,oB] at hop;obtain ⟨_,_,hop⟩:=hop;split at hop
   ·simp only[oB] at hop;obtain ⟨_,_,_,_,_,_,_,_,_,_,rfl⟩:=hop;cases hctl
   ·cases hop
  |makeSlice p0 p1 p2=>
   rw[hoo] at hop;simp only[cOp,oB] at hop;obtain ⟨_,_,hop⟩:=hop;split at hop
   ·simp only[oB] at hop;obtain ⟨_,_,_,_,_,_,_,_,rfl⟩:=hop;cases hctl
   ·cases hop
  |buildSlice p0 p1 p2=>
   rw[hoo] at hop;simp only[cOp,oB] at hop;obtain ⟨_,_,hop⟩:=hop;split at hop
   ·simp only[Option.bind_eq_some_iff] at hop;obtain ⟨_,_,_,_,hop⟩:=hop;split at hop
    ·simp only[oB] at hop;obtain ⟨_,_,rfl⟩:=hop;cases hctl
    ·cases hop
   ·cases hop
  |makeMap p0 p1=>
   rw[hoo] at hop;simp only[cOp] at hop;split at hop<;>cases hop
   cases hctl
  |slice p0 p1 p2 p3 p4=>
   rw[hoo] at hop;simp only[cOp,oB] at hop;obtain ⟨_,_,_,_,_,_,_,_,_,_,hop⟩:=hop;split at hop
   ·simp only[oB] at hop;obtain ⟨_,_,rfl⟩:=hop;cases hctl
   ·split at hop<;>cases hop
    cases hctl
   ·simp only[oB] at hop;obtain ⟨_,_,rfl⟩:=hop;cases hctl
   ·cases hop
  |typeAssert p0 p1 p2 p3=>
   rw[hoo] at hop;simp only[cOp,oB] at hop;obtain ⟨_,_,_,_,_,_,hop⟩:=hop;split at hop<;>cases hop
   cases hctl
  |range p0 p1=>rw[hoo] at hop;simp only[cOp,Option.bind_eq_bind,Option.pure_def,Option.bind_eq_some_iff] at hop;obtain ⟨_,_,_,_,hop⟩:=hop;split at hop<;>cases hop<;>cases hctl
  |next p0 p1=>
   rw[hoo] at hop;simp only[cOp] at hop;split at hop
   ·simp only[oB] at hop;obtain ⟨_,_,rfl⟩:=hop;cases hctl
   ·simp only[oB] at hop;obtain ⟨_,_,rfl⟩:=hop;cases hctl
  |entry p0=>rw[hoo] at hop;simp only[cOp,oB] at hop;obtain ⟨_,_,rfl⟩:=hop;cases hctl
  |_=>rw[hoo] at hop;simp [cOp] at hop
end
end Go.AJ
namespace Go.AJ
open Go
variable [BN]
section
variable {P:Program} {X:Cx} {ρ:Ren} {h:Hp} {w:World} {t:T V} {a:Act} {b:Frame} {cf:FrameMode→List Frame} {μ:FrameMode} {todo:List Item} {n:Nat}
def At (ρ:Ren) (b:Frame) (cf:FrameMode→List Frame) (μ:FrameMode) (todo:List Item) (e:Ex) (a:Act) (w:World) (m:Machine):Prop:=match e with
 |.normal=>m=lone (b.atR a todo) (cf μ) w
 |.exit id=>∃todo',exitTo id todo'=exitTo id todo∧m=lone (b.atR a (.code (.exit id)::todo')) (cf μ) w
 |.ret=>∃todo',m=lone (b.atR a (.code .ret::todo')) (cf μ) w
 |.panic ch _=>∃ch' todo',PER ρ ch ch'∧m=lone {b.atR a todo' with mode:=.panicking ch'} (cf μ) w
def Adc:Ex→List K
 |.panic _ q=>q
 |_=> []
structure SR (X:Cx) (ρ:Ren) (n:Nat) (b:Frame) (cf:FrameMode→List Frame) (q:List K) (t:T V) (d:Dc) (h:Hp) (a:Act) (μ:FrameMode) (w:World):Prop where
 tr:TR ρ q n t a.tmps
 dc:DcR ρ b cf μ d a.defers
 hr:HR X ρ h w
def ExOut (P:Program) (X:Cx) (ρ:Ren) (h:Hp) (w:World) (n:Nat) (b:Frame) (cf:FrameMode→List Frame) (todo:List Item) (k:KE) (m0:Machine):Prop:=
 ∃e t' d' h' ρ' a' w' μ' m,k e t' d' h'=true∧Steps P m0 m∧At ρ' b cf μ' todo e a' w' m∧SR X ρ' n b cf (Adc e) t' d' h' a' μ' w'∧Ext ρ h w ρ' h' w'
theorem ExOut.head {k:KE} {m0 m1:Machine} (hs:step P m0=.next m1) (hx:ExOut P X ρ h w n b cf todo k m1):ExOut P X ρ h w n b cf todo k m0:=by obtain ⟨e,t',d',h',ρ',a',w',μ',m,h1,h2,h3⟩:=hx;exact ⟨e,t',d',h',ρ',a',w',μ',m,h1,.head hs h2,h3⟩
theorem TR.put {v:V} {v':Value} {i:Nat} (ht:TR ρ [] n t a.tmps) (hi:i<n) (hv:VR ρ v v'):TR ρ [] n (T.ins und v (K.of i) t) (a.put (some i) v').tmps:=by
 refine ⟨by simp [Act.put,ht.size],fun j _=>?_⟩;rw[T.get_ins];by_cases hji:j=i
 ·subst hji;have:j<a.tmps.size:=Nat.lt_of_lt_of_le hi ht.size;simpa [Act.put,this] using hv
 ·rw[if_neg (fun e=>hji (K.of_inj e))];have:=ht.val j (by simp);simpa [Act.put,Array.getElem?_setIfInBounds_ne (Ne.symm hji)] using this
noncomputable def fD (dst:Option K) (v:V) (t:T V):T V:=match dst with
 |none=>t
 |some k=>T.ins und v k t
theorem Kc (dst:Option K) (v:V) (t:T V) (c:T V→Bool):put dst v t c=c (fD dst v t):=by
 cases dst with
 |none=>rfl
 |some k=>simp only[put,T.set_eq,fD]
theorem TR.putO {v:V} {v':Value} {dst:Option Tmp} {dst':Option K} (ht:TR ρ [] n t a.tmps) (hd:OV n dst=some dst') (hv:VR ρ v v'):
  TR ρ [] n (fD dst' v t) (a.put dst v').tmps:=by
 cases dst with
 |none=>simp only[OV,Option.some.injEq] at hd;subst hd;exact ht
 |some i=>
  simp only[OV] at hd;split at hd
  ·rename_i hi;simp only[Option.some.injEq] at hd;subst hd;exact ht.put hi hv
  ·cases hd
theorem HH {ops:Array Oper} {o:Oper} {g:Option (K×Bool)} (hg:Ha n ops o.guard=some g) (hsz:n≤a.tmps.size)
  (hv:∀j want d,o.guard=some (j,want)→(ops[j]?).bind (·.dst)=some d→VR ρ (T.get und (K.of d) t) (a.tmps.getD d undef)) {yes no:Bool} (e:wanted g t yes no=true):
  (Region.wanted o (yielded ops a.tmps)=true∧yes=true)∨(Region.wanted o (yielded ops a.tmps)=false∧no=true):=by
 cases hgo:o.guard with
 |none=>rw[hgo] at hg;simp only[Ha,Option.some.injEq] at hg;subst hg;exact .inl ⟨by simp [Region.wanted,hgo],e⟩
 |some p=>
  obtain ⟨j,want⟩:=p;rw[hgo] at hg;simp only[Ha] at hg;split at hg
  ·rename_i d hd;split at hg
   ·rename_i hdn;simp only[Option.some.injEq] at hg;subst hg;have hr:=hv j want d hgo hd;have hlt:d<a.tmps.size:=Nat.lt_of_lt_of_le hdn hsz;have hget:a.tmps.getD d undef=a.tmps[d]:=by simp [hlt]
    have hy:yielded ops a.tmps j=match a.tmps[d] with|.bool b=>some b|_=>none:=by simp only[yielded,hd,Option.bind_some,Array.getElem?_eq_getElem hlt];cases a.tmps[d]<;>rfl
    rw[hget] at hr;generalize a.tmps[d]=vv at hr hy;simp only[wanted] at e;simp only[Region.wanted,hgo,hy];generalize T.get und (K.of d) t=tv at hr e;cases hr with
    |bool q=>cases q<;>cases want<;>simp_all
    |_=>exact .inr ⟨by simp,e⟩
   ·cases hg
  ·cases hg
theorem D6 {k:KE} {m0 m1:Machine} {ρ1:Ren} {h1:Hp} {w1:World} (hs:Steps P m0 m1) (E:Ext ρ h w ρ1 h1 w1) (hx:ExOut P X ρ1 h1 w1 n b cf todo k m1):ExOut P X ρ h w n b cf todo k m0:=by obtain ⟨e,t',d',h',ρ',a',w',μ',m,g1,g2,g3,g4,g5⟩:=hx;exact ⟨e,t',d',h',ρ',a',w',μ',m,g1,.trans hs g2,g3,g4,E.trans g5⟩
theorem qx (hP:POK P X) {C:As} (hC:Dp P X C) {ops:Array Oper} {k:KE}:∀(l:List Oper) (i:Nat) (ρ:Ren) (h:Hp) (w:World) (t:T V) (a:Act) (d:Dc) (μ:FrameMode),ops.toList.drop i=l→
  SR X ρ n b cf [] t d h a μ w→
  Bv C (l.map (cAO X.T X.ext n ops)) t d h (fun t' d' h'=>k .normal t' d' h') (fun ch t' d' h'=>k (.panic ch []) t' d' h')=true→
  ExOut P X ρ h w n b cf todo k (lone (b.atR a (.inRegion ops (List.range' i (ops.size-i))::todo)) (cf μ) w):=by
 intro l;induction l with
 |nil=>
  intro i ρ h w t a d μ hl S e;have hi:ops.size≤i:=by have:=congrArg List.length hl;simp at this;omega
  rw[show ops.size-i=0 by omega];exact ⟨.normal,t,d,h,ρ,a,w,μ,_,e,.one stepR_region_end,rfl,S,Ext.refl _ _ _⟩
 |cons o l ih=>
  intro i ρ h w t a d μ hl S e;have hi:i<ops.size:=by have:=congrArg List.length hl;simp at this;omega
  have ho:ops[i]? =some o:=by
   have:(ops.toList.drop i)[0]? =some o:=by rw[hl];rfl
   simpa using this
  have hl':ops.toList.drop (i+1)=l:=by rw[←List.drop_drop,hl];rfl
  rw[show ops.size-i=(ops.size-(i+1))+1 by omega,List.range'_succ]
  have parts:∃dst g op,cAO X.T X.ext n ops o=⟨dst,g,op⟩∧OV n o.dst=some dst∧Ha n ops o.guard=some g∧cOp X.T X.ext o.op=some op:=by
   unfold cAO;split
   ·rename_i d' g' op' h1 h2 h3;exact ⟨d',g',op',rfl,h1,h2,h3⟩
   ·rename_i hbad;exfalso;have hb:cAO X.T X.ext n ops o=er:=by
     unfold cAO;split
     ·rename_i d' g' op' h1 h2 h3;exact (hbad _ _ _ h1 h2 h3).elim
     ·rfl
    rw[List.map_cons,hb] at e;cases e
  obtain ⟨dst,g,op,hao,hdst,hg,hop⟩:=parts;rw[List.map_cons,hao] at e;have e:wanted g t (Bd C op dst t d h (fun t' d' h'=>Bv C (l.map (cAO X.T X.ext n ops)) t' d' h' (fun t' d' h'=>k .normal t' d' h') (fun ch t' d' h'=>k (.panic ch []) t' d' h')) (fun ch t' d' h'=>k (.panic ch []) t' d' h'))
    (put dst und t fun t'=>Bv C (l.map (cAO X.T X.ext n ops)) t' d h (fun t' d' h'=>k .normal t' d' h') (fun ch t' d' h'=>k (.panic ch []) t' d' h'))=true:=e
  rcases HH hg S.tr.size (fun j want dd _ _=>S.tr.val dd (by simp)) e with ⟨hw,e⟩|⟨hw,e⟩
  ·obtain ⟨ρ',h',w',μ',d',H',E,ds,hd',hout⟩:=aW (todo:=todo) (rest:=List.range' (i+1) (ops.size-(i+1))) hP hC ho hw hop (fun x _=>uk S.tr (by simp)) S.hr S.dc e;rcases hout with ⟨v,v',hk,hv,hs⟩|⟨ch,ch',todo',hk,hper,hs⟩
   ·rw[Kc] at hk;refine D6 hs E (ih (i+1) ρ' h' w' _ _ d' μ' hl' ⟨?_,?_,H'⟩ hk)
    ·exact (TR.mono E.sub S.tr:TR ρ' [] n t (Act.mk a.tmps ds).tmps).putO hdst hv
    ·cases o.dst<;>exact hd'
   ·exact ⟨.panic ch [],t,d',h',ρ',⟨a.tmps,ds⟩,w',μ',_,hk,hs,⟨ch',todo',hper,rfl⟩,⟨TR.mono E.sub S.tr,hd',H'⟩,E⟩
  ·rw[Kc] at e;have hskip:=stepR_op_skip (P:=P) (b:=b) (a:=a) (k:=todo) (cs:=cf μ) (w:=w) (ops:=ops) (i:=i) (rest:=List.range' (i+1) (ops.size-(i+1))) (by rw[ho];simpa using hw);rw[ho] at hskip;refine ExOut.head hskip (ih (i+1) ρ h w _ _ d μ hl' ⟨?_,?_,S.hr⟩ e)
   ·exact S.tr.putO hdst (.tup [] [] .nil)
   ·simp only[Option.bind_some];cases o.dst<;>exact S.dc
end
end Go.AJ
namespace Go.AJ
open Go
variable [BN]
section
variable {P:Program} {X:Cx} {ρ:Ren} {h:Hp} {w:World} {t:T V} {a:Act} {b:Frame} {cf:FrameMode→List Frame} {μ:FrameMode} {todo:List Item} {n:Nat}
def FiR (ρ:Ren) (fi:FI) (b:Frame):Prop:=match fi with
 |.mk fn r=>b.fn=fn∧(match r with|none=>b.roundOf=none|some l=>∃rl,ρ l=some rl∧b.roundOf=some rl.blk)
theorem FiR.mono {ρ ρ':Ren} (hs:∀b r,ρ b=some r→ρ' b=some r) {fi:FI} (hf:FiR ρ fi b):FiR ρ' fi b:=by
 cases fi with
 |mk fn r=>
  refine ⟨hf.1,?_⟩;cases r with
  |none=>exact hf.2
  |some l=>obtain ⟨rl,h1,h2⟩:=hf.2;exact ⟨rl,hs _ _ h1,h2⟩
def IR (P:Program) (X:Cx) (n:Nat) (c:Code) (f:T V→Dc→Hp→KE→Bool) (fi:FI):Prop:=
 ∀(b:Frame) (cf:FrameMode→List Frame) (todo:List Item) (k:KE) (ρ:Ren) (h:Hp) (w:World) (t:T V) (a:Act) (d:Dc) (μ:FrameMode),
  SR X ρ n b cf [] t d h a μ w→FiR ρ fi b→f t d h k=true→ExOut P X ρ h w n b cf todo k (lone (b.atR a (.code c::todo)) (cf μ) w)
theorem Nz {c:Code} {k:List Item} {cs:List Frame}:step P (lone (b.atR a (.code (.scope c)::k)) cs w)=.next (lone (b.atR a (.code c::.inScope c::k)) cs w):=
 step_lone_go (by simp [stepG,stepG.exec,Frame.atR])
theorem JY {c:Code} {k:List Item} {cs:List Frame}:step P (lone (b.atR a (.inScope c::k)) cs w)=.next (lone (b.atR a k) cs w):=
 step_lone_go (by simp [stepG,stepG.exec,Frame.atR])
theorem ExOut.wrap {x:Item} {k' k:KE} {m0:Machine} (hx:ExOut P X ρ h w n b cf (x::todo) k' m0) (hex:∀id,exitTo id (x::todo)=exitTo id todo)
  (hn:∀(ρ1:Ren) (h1:Hp) (w1:World) (t1:T V) (a1:Act) (d1:Dc) (μ1:FrameMode),(∀b r,ρ b=some r→ρ1 b=some r)→SR X ρ1 n b cf [] t1 d1 h1 a1 μ1 w1→k' .normal t1 d1 h1=true→
   ExOut P X ρ1 h1 w1 n b cf todo k (lone (b.atR a1 (x::todo)) (cf μ1) w1))
  (he:∀e t d h,(∀hn:e=.normal,False)→k' e t d h=true→k e t d h=true):ExOut P X ρ h w n b cf todo k m0:=by
 obtain ⟨e,t',d',h',ρ',a',w',μ',m,g1,g2,g3,g4,g5⟩:=hx;cases e with
 |normal=>have g3:m=lone (b.atR a' (x::todo)) (cf μ') w':=g3;subst g3;exact D6 g2 g5 (hn _ _ _ _ _ _ _ g5.sub g4 g1)
 |exit id=>obtain ⟨todo',h1,h2⟩:=g3;exact ⟨.exit id,t',d',h',ρ',a',w',μ',m,he _ _ _ _ (by simp) g1,g2,⟨todo',h1.trans (hex id),h2⟩,g4,g5⟩
 |ret=>exact ⟨.ret,t',d',h',ρ',a',w',μ',m,he _ _ _ _ (by simp) g1,g2,g3,g4,g5⟩
 |panic ch q=>exact ⟨.panic ch q,t',d',h',ρ',a',w',μ',m,he _ _ _ _ (by simp) g1,g2,g3,g4,g5⟩
theorem Ig {r:T V→Dc→Hp→Bool} {k:KE}:∀e t d h,(∀hn:e=.normal,False)→Dd r k e t d h=true→k e t d h=true:=by
 intro e t d h hn hk;cases e with
 |normal=>exact (hn rfl).elim
 |exit id=>exact hk
 |ret=>exact hk
 |panic ch q=>exact hk
theorem tY {c:Code} {f:T V→Dc→Hp→KE→Bool} {fi:FI} (hc:IR P X n c f fi):∀(L:Nat) (b:Frame) (cf:FrameMode→List Frame) (todo:List Item) (k:KE) (ρ:Ren) (h:Hp) (w:World) (t:T V) (a:Act) (d:Dc) (μ:FrameMode),
  SR X ρ n b cf [] t d h a μ w→FiR ρ fi b→iter f L t d h k=true→ExOut P X ρ h w n b cf todo k (lone (b.atR a (.code c::.inLoop c::todo)) (cf μ) w):=by
 intro L;induction L with
 |zero=>intro b cf todo k ρ h w t a d μ _ _ e;cases e
 |succ L ih=>intro b cf todo k ρ h w t a d μ S F e;refine ExOut.wrap (hc b cf (.inLoop c::todo) _ ρ h w t a d μ S F e) (fun _=>rfl) (fun ρ1 h1 w1 t1 a1 d1 μ1 hs S1 e1=>?_) Ig;exact ExOut.head stepR_inLoop (ih b cf todo k ρ1 h1 w1 t1 a1 d1 μ1 S1 (F.mono hs) e1)
theorem ui (hP:POK P X) {C:As} (hC:Dp P X C) (L:Nat) (fi:FI)
  (hD:∀id ops,IR P X n (.region id ops true) (exec C L fi (Ca X.T X.ext n (.region id ops true))) fi)
  (hR:∀f ps x y,IR P X n (.rangeFunc f ps x y) (exec C L fi (Ca X.T X.ext n (.rangeFunc f ps x y))) fi):
  ∀c:Code,IR P X n c (exec C L fi (Ca X.T X.ext n c)) fi:=by
 intro c;induction c with
 |skip=>intro b cf todo k ρ h w t a d μ S F e;exact ⟨.normal,t,d,h,ρ,a,w,μ,_,e,.one stepR_skip,rfl,S,Ext.refl _ _ _⟩
 |label l=>intro b cf todo k ρ h w t a d μ S F e;exact ⟨.normal,t,d,h,ρ,a,w,μ,_,e,.one stepR_label,rfl,S,Ext.refl _ _ _⟩
 |region id ops draw=>
  cases draw with
  |true=>exact hD id ops
  |false=>intro b cf todo k ρ h w t a d μ S F e;refine ExOut.head stepR_region ?_;rw[List.range_eq_range'];exact qx hP hC ops.toList 0 ρ h w t a d μ rfl S e
 |seq x y ihx ihy=>intro b cf todo k ρ h w t a d μ S F e;refine ExOut.head stepR_seq (ExOut.wrap (ihx b cf (.code y::todo) _ ρ h w t a d μ S F e) (fun _=>rfl) (fun ρ1 h1 w1 t1 a1 d1 μ1 hs S1 e1=>?_) Ig);exact ihy b cf todo k ρ1 h1 w1 t1 a1 d1 μ1 S1 (F.mono hs) e1
 |cond q x y ihx ihy=>
  intro b cf todo k ρ h w t a d μ S F e;simp only[Ca] at e;split at e
  ·rename_i q' hq;have hv:=uk (ρ:=ρ) S.tr (x:=q) (by simp) _ hq;have e:dq (ev t q') (exec C L fi (Ca X.T X.ext n x) t d h k) (exec C L fi (Ca X.T X.ext n y) t d h k)=true:=e;generalize ev t q'=vv at hv e;generalize hqe:a.eval q=qq at hv;cases hv with
   |bool u=>
    refine ExOut.head (stepR_cond hqe) ?_;cases u with
    |true=>exact ihx b cf todo k ρ h w t a d μ S F e
    |false=>exact ihy b cf todo k ρ h w t a d μ S F e
   |_=>cases e
  ·cases e
 |block id x ih=>
  intro b cf todo k ρ h w t a d μ S F e;refine ExOut.head stepR_block ?_;obtain ⟨e1,t',d',h',ρ',a',w',μ',m,g1,g2,g3,g4,g5⟩:=ih b cf (.inBlock id::todo) (Ek id k) ρ h w t a d μ S F e;cases e1 with
  |normal=>have g3:m=lone (b.atR a' (.inBlock id::todo)) (cf μ') w':=g3;subst g3;exact ⟨.normal,t',d',h',ρ',a',w',μ',_,g1,.trans g2 (.one stepR_inBlock),rfl,g4,g5⟩
  |exit id'=>
   obtain ⟨todo',q1,rfl⟩:=g3;simp only[Ek] at g1;split at g1
   ·rename_i hq;have hq:=Nat.eq_of_beq_eq_true hq;subst hq;have hx:exitTo id todo'=some todo:=by rw[q1];simp [exitTo]
    exact ⟨.normal,t',d',h',ρ',a',w',μ',_,g1,.trans g2 (.one (stepR_exit hx)),rfl,g4,g5⟩
   ·rename_i hq;have hne:id≠id':=fun e=>by subst e;simp at hq
    refine ⟨.exit id',t',d',h',ρ',a',w',μ',_,g1,g2,⟨todo',?_,rfl⟩,g4,g5⟩;rw[q1];simp [exitTo,hne]
  |ret=>exact ⟨.ret,t',d',h',ρ',a',w',μ',m,g1,g2,g3,g4,g5⟩
  |panic ch q=>exact ⟨.panic ch q,t',d',h',ρ',a',w',μ',m,g1,g2,g3,g4,g5⟩
 |loop x ih=>intro b cf todo k ρ h w t a d μ S F e;exact ExOut.head stepR_loop (tY ih L b cf todo k ρ h w t a d μ S F e)
 |rangeFunc f ps x y _ _=>exact hR f ps x y
 |exit id=>intro b cf todo k ρ h w t a d μ S F e;exact ⟨.exit id,t,d,h,ρ,a,w,μ,_,e,.refl _ _,⟨todo,rfl,rfl⟩,S,Ext.refl _ _ _⟩
 |scope x ih=>intro b cf todo k ρ h w t a d μ S F e;refine ExOut.head Nz (ExOut.wrap (ih b cf (.inScope x::todo) k ρ h w t a d μ S F e) (fun _=>rfl) (fun ρ1 h1 w1 t1 a1 d1 μ1 hs S1 e1=>?_) (fun _ _ _ _ _ hk=>hk));exact ⟨.normal,t1,d1,h1,ρ1,a1,w1,μ1,_,e1,.one JY,rfl,S1,Ext.refl _ _ _⟩
 |goto l=>intro b cf todo k ρ h w t a d μ S F e;cases e
 |ret=>intro b cf todo k ρ h w t a d μ S F e;exact ⟨.ret,t,d,h,ρ,a,w,μ,_,e,.refl _ _,⟨todo,rfl⟩,S,Ext.refl _ _ _⟩
 |refuse why=>intro b cf todo k ρ h w t a d μ S F e;cases e
end
end Go.AJ
namespace Go.AJ
open Go
variable [BN]
section
variable {P:Program} {X:Cx} {ρ:Ren} {h:Hp} {w:World} {t:T V} {a:Act} {b:Frame} {cf:FrameMode→List Frame} {μ:FrameMode} {todo:List Item} {n:Nat}
theorem La {q:List K} {k:K} {c:Bool} (e:TI q k c=true):k∉q∧c=true:=by
 induction q with
 |nil=>exact ⟨by simp,e⟩
 |cons k' q ih=>
  simp only[TI] at e;split at e
  ·cases e
  ·rename_i hk;obtain ⟨h1,h2⟩:=ih e;refine ⟨?_,h2⟩;intro hm;rcases List.mem_cons.1 hm with rfl|hm
   ·rw[K.beq_refl] at hk;cases hk
   ·exact h1 hm
def Ji (tmps:Array Value):ResultVar→Sem Value
 |.tmp t=>pure (tmps.getD t undef)
 |.cell a t=>do loadVar t (←asAddr (tmps.getD a undef))
theorem MQ {ty:Nat} {v x:Value} (hx:(Instr.loadAt ty v).run P w=.ok x w):((asAddr v).run P w).andThen (fun r w'=>(loadVar ty r).run P w')=.ok x w:=by
 cases v with
 |pointer p=>
  cases p with
  |none=>simp [Instr.loadAt,Instr.sureAddr,stuck,Sem.run,Result.andThen] at hx
  |some p=>simpa [Instr.loadAt,Instr.sureAddr,asAddr] using hx
 |_=>simp [Instr.loadAt,Instr.sureAddr,stuck,Sem.run,Result.andThen] at hx
theorem Rr (hT:TyOK P X) {q:List K} (H:HR X ρ h w) (ht:TR ρ q n t a.tmps):∀{rs:List ResultVar} {res:List RV} {c:List V→Bool},uZ X.T rs=some res→results q t h res c=true→
  ∃vs vs',c vs=true∧(rs.mapM (Ji a.tmps)).run P w=.ok vs' w∧VL ρ vs vs':=by
 intro rs;induction rs with
 |nil=>intro res c hr e;simp only[uZ,Option.some.injEq] at hr;subst hr;exact ⟨[],[],e,by simp,.nil⟩
 |cons r rs ih=>
  intro res c hr e;simp only[uZ] at hr;split at hr
  ·cases hr
  ·rename_i res' hres;split at hr
   ·rename_i tt;simp only[Option.some.injEq] at hr;subst hr;simp only[results] at e;obtain ⟨hq,e⟩:=La e;obtain ⟨vs,vs',hc,hrun,hv⟩:=ih hres e;exact ⟨_,_,hc,by simp [List.mapM_cons,Ji,hrun],.cons _ _ _ _ (ht.val tt hq) hv⟩
   ·rename_i ca ty;split at hr
    ·rename_i d m hd hm;obtain ⟨i,hi,rfl⟩:=Bs hT hm;have hu:=hT.un _ _ hd;split at hr
     ·rename_i hagg;simp only[Option.some.injEq] at hr;subst hr;simp only[results] at e;obtain ⟨hq,e⟩:=La e;obtain ⟨x,x',e,hx,hvx⟩:=ML (P:=P) H hu hagg hi (ht.val ca hq) e;obtain ⟨vs,vs',hc,hrun,hv⟩:=ih hres e;exact ⟨_,_,hc,by simp only[List.mapM_cons,Ji,Sem.run_bind,MQ hx,Result.andThen_ok,hrun,Sem.run_pure],.cons _ _ _ _ hvx hv⟩
     ·rename_i hagg;simp only[Option.some.injEq] at hr;subst hr;simp only[results] at e;obtain ⟨hq,e⟩:=La e;obtain ⟨x,x',e,hx,hvx⟩:=MM (P:=P) H hu (by simpa using hagg) (ht.val ca hq) e;obtain ⟨vs,vs',hc,hrun,hv⟩:=ih hres e;exact ⟨_,_,hc,by simp only[List.mapM_cons,Ji,Sem.run_bind,MQ hx,Result.andThen_ok,hrun,Sem.run_pure],.cons _ _ _ _ hvx hv⟩
    ·cases hr
theorem y7 {vs:List V} {vs':List Value} (h:VL ρ vs vs'):VR ρ (one vs) (if hh:(⟨vs'⟩:Array Value).size=1 then (⟨vs'⟩:Array Value)[0] else .tuple ⟨vs'⟩):=by
 cases h with
 |nil=>exact .tup [] [] .nil
 |cons v v' l l' hv hl=>
  cases hl with
  |nil=>exact hv
  |cons u u' m m' hu hm=>exact .tup _ _ (.cons _ _ _ _ hv (.cons _ _ _ _ hu hm))
theorem NE {fn:Func} {tmps:Array Value} {vs':List Value} (hr:(fn.results.toList.mapM (Ji tmps)).run P w=.ok vs' w):
  (Go.results fn tmps).run P w=.ok (if hh:(⟨vs'⟩:Array Value).size=1 then (⟨vs'⟩:Array Value)[0] else .tuple ⟨vs'⟩) w:=by
 have e:Go.results fn tmps=(do
   let vs←fn.results.mapM (Ji tmps)
   pure (if h:vs.size=1 then vs[0] else .tuple vs)):=by
  unfold Go.results;congr 1
 rw[e,Array.mapM_eq_mapM_toList];simp only[Sem.run_bind,Sem.run_map,hr,Result.andThen_ok,Sem.run_pure]
theorem PER.all {ch:List PE} {ch':List PanicEntry} (h:PER ρ ch ch'):ch'.dropWhile (!·.goexit)= []:=by
 induction h with
 |nil=>rfl
 |cons v v' r l l' _ _ ih=>simpa using ih
theorem PER.append {a c:List PE} {a' c':List PanicEntry} (h1:PER ρ a a') (h2:PER ρ c c'):PER ρ (a++c) (a'++c'):=by
 induction h1 with
 |nil=>exact h2
 |cons v v' r l l' hv _ ih=>exact .cons _ _ _ _ _ hv ih
theorem H8 {c:Frame} {m:FrameMode} (h:c.mode=m):{c with mode:=m}=c:=by subst h;rfl
def back (u:Md):End→Md
 |.ret _=>kE u
 |.pan ch=>lg u ch
theorem Uw {fr c:Frame} {cs:List Frame} {e:End} {u:Md} {w:World} (hend:wV P ρ e .deferred fr w) (hu:MdR ρ u c.mode):
  ∃μ',step P (lone fr (c::cs) w)=.next (lone {c with mode:=μ'} cs w)∧MdR ρ (back u e) μ':=by
 generalize hcm:c.mode=μ0 at hu;cases e with
 |ret v=>
  obtain ⟨v',hv,hm,hd,hk,fn,hf,hr⟩:=hend;cases hu with
  |ret=>refine ⟨.returning,?_,.ret⟩;rw[H8 hcm];exact step_lone_go (by simp [stepG,Go.unwind,doReturn,hm,hd,hk,hf,hr,hcm])
  |pan ch ch' hp=>
   cases hp with
   |nil=>refine ⟨.panicking [],?_,.pan [] [] .nil⟩;rw[H8 hcm];exact step_lone_go (by simp [stepG,Go.unwind,doReturn,hm,hd,hk,hf,hr,hcm])
   |cons v2 v2' r l l' hv2 hl=>
    cases r with
    |true=>refine ⟨.returning,?_,.ret⟩;have:=hl.all;exact step_lone_go (by simp only[stepG,Go.unwind,doReturn,hm,hd,hk,hf,Sem.runT_eq,hr,hcm,this];rfl)
    |false=>refine ⟨.panicking ({v:=v2',recovered:=false}::l'),?_,.pan _ _ (.cons _ _ _ _ _ hv2 hl)⟩;rw[H8 hcm];exact step_lone_go (by simp [stepG,Go.unwind,doReturn,hm,hd,hk,hf,hr,hcm])
 |pan ch=>
  obtain ⟨ch',hper,hm,hd,fn,hf⟩:=hend;cases hu with
  |ret=>refine ⟨.panicking ch',?_,.pan _ _ hper⟩;exact step_lone_go (by simp [stepG,Go.unwind,Frame.catches,Frame.raise,hm,hd,hf,hcm])
  |pan ch2 ch2' hp=>refine ⟨.panicking (ch'++ch2'),?_,.pan _ _ (hper.append hp)⟩;exact step_lone_go (by simp [stepG,Go.unwind,Frame.catches,Frame.raise,hm,hd,hf,hcm])
theorem JX {fr:Frame} {cs:List Frame} {f:Nat} {cap args:Array Value} {ds:List Deferred} {u:Md} (hd:fr.defers=⟨.fn (.func f) cap,args⟩::ds) (hu:MdR ρ u fr.mode)
  (he:(callFunc f (args++cap)).run P w=.ok (.enter f (args++cap)) w):
  step P (lone fr cs w)=.next (lone (Frame.enter P f (args++cap) .deferred) ({fr with defers:=ds}::cs) w):=by
 generalize hm:fr.mode=m at hu;cases hu<;>exact step_lone_go (by simp [stepG,Go.unwind,callDeferred,hm,hd,invoke,he])
theorem Rk {r:Nat} {ds:List Deferred} (hb:w.heap[r]? =some (.deferred (some ds))):
  ∃w',(Instr.takeDeferred r).run P w=.ok ds w'∧w'.heap=w.heap.set! r (.deferred none)∧w'.os=w.os∧w'.tape=w.tape∧w'.output=w.output:=
 ⟨{w with heap:=w.heap.setIfInBounds r (.deferred none)},by simp [Instr.takeDeferred,getObj,setObj,Sem.run,hb],by rw[Array.set!_eq_setIfInBounds],rfl,rfl,rfl⟩
theorem IU {fr:Frame} {cs:List Frame} {r:Nat} {args:Array Value} {ds calls:List Deferred} {u:Md} {w':World} (hd:fr.defers=⟨.collected r,args⟩::ds) (hu:MdR ρ u fr.mode)
  (ht:(Instr.takeDeferred r).run P w=.ok calls w'):step P (lone fr cs w)=.next (lone {fr with defers:=calls++ds} cs w'):=by
 generalize hm:fr.mode=m at hu;cases hu<;>exact step_lone_go (by simp [stepG,Go.unwind,hm,hd,ht])
theorem DR.append {l1 l2:List D} {m1 m2:List Deferred} (h1:DR ρ l1 m1) (h2:DR ρ l2 m2):DR ρ (l1++l2) (m1++m2):=by
 induction h1 with
 |nil=>exact h2
 |coll b r l l' h _ ih=>exact .coll _ _ _ _ h ih
 |call f a c a' l l' h _ ih=>exact .call _ _ _ _ _ _ h ih
theorem Uq (hT:TyOK P X) {C:As} (hC:Dp P X C) {fn:Func} {res:List RV} (hf:P.funcs[b.fn]? =some fn) (hres:uZ X.T fn.results.toList=some res) {q:List K} {cm:Option Md} {k:KC}:
  ∀(L:Nat) (u:Md) (ds:List D) (h:Hp) (ρ:Ren) (w:World) (a:Act) (M:FrameMode),unwind C res q cm t L u ds h k=true→TR ρ q n t a.tmps→DR ρ ds a.defers→HR X ρ h w→MdR ρ u M→CmR ρ cm b.kind cf μ→
  ∃e h' ρ' w' fr,k e cm h'=true∧Steps P (lone {b.atR a todo with mode:=M} (cf μ) w) (lone fr (cf μ) w')∧wV P ρ' e b.kind fr w'∧CmR ρ' cm b.kind cf μ∧HR X ρ' h' w'∧Ext ρ h w ρ' h' w'∧fr.fn=b.fn:=by
 intro L;induction L with
 |zero=>intro u ds h ρ w a M e;cases e
 |succ L ih=>
  intro u ds h ρ w a M e ht hd H hu hcm;cases hd':a.defers with
  |nil=>
   rw[hd'] at hd;cases hd;simp only[unwind] at e;cases hu with
   |ret=>obtain ⟨vs,vs',hc,hrun,hv⟩:=Rr hT H ht hres e;exact ⟨_,h,ρ,w,_,hc,.refl _ _,⟨_,y7 hv,rfl,hd',rfl,fn,hf,NE hrun⟩,hcm,H,Ext.refl _ _ _,rfl⟩
   |pan ch ch' hp=>exact ⟨_,h,ρ,w,_,e,.refl _ _,⟨ch',hp,rfl,hd',fn,hf⟩,hcm,H,Ext.refl _ _ _,rfl⟩
  |cons dd ds'=>
   rw[hd'] at hd;cases hd with
   |coll bk r l l' hr hl=>
    simp only[unwind] at e;split at e
    ·rename_i calls hblk;rw[AK] at e;have hbn:blk h bk≠.none:=by rw[hblk];simp
     obtain ⟨o,ho,hbr⟩:=H.live bk r hbn hr;rw[hblk] at hbr;obtain ⟨calls',rfl,hdc⟩:=hbr;obtain ⟨w1,hw1,g1,g2,g3,g4⟩:=Rk (P:=P) ho;obtain ⟨H1,E1⟩:=H.turn hbn hr .none (.deferred none) w1 g1 g2 g3 g4 trivial;have hstep:=IU (P:=P) (fr:={b.atR a todo with mode:=M}) (cs:=cf μ) (w:=w) hd' hu hw1;obtain ⟨e1,h',ρ',w',fr,k1,k2,k3,k4,k5,k6⟩:=ih u (calls++l) _ ρ w1 ⟨a.tmps,calls'++ds'⟩ M e ht (hdc.append hl) H1 hu hcm;exact ⟨e1,h',ρ',w',fr,k1,.head hstep k2,k3,k4,k5,E1.trans k6.1,k6.2⟩
    ·cases e
   |call f as cap as' l l' hargs hl=>
    simp only[unwind] at e;obtain ⟨hent,hall⟩:=hC.fn _ _ _ _ _ e;have hstep:=JX (P:=P) (fr:={b.atR a todo with mode:=M}) (cs:=cf μ) (w:=w) hd' hu (hent _ _);obtain ⟨e1,u1,h1,ρ1,w1,μ1,fr1,hk,hs,hend,hcm1,H1,E1,_⟩:=hall ρ w (as'++cap) .deferred (fun m=>{{b.atR a todo with mode:=M} with defers:=ds',mode:=m}::cf μ) M H (by simpa using hargs)
     ⟨rfl,⟨{{b.atR a todo with mode:=M} with defers:=ds'},cf μ,fun _=>rfl⟩,hu⟩
    cases u1 with
    |none=>cases hk
    |some u2=>
     obtain ⟨_,_,hu2⟩:=hcm1;obtain ⟨μ2,hback,hmd⟩:=Uw (P:=P) (cs:=cf μ) (c:={{b.atR a todo with mode:=M} with defers:=ds',mode:=μ1}) hend hu2;have hk:unwind C res q cm t L (back u2 e1) l h1 k=true:=by cases e1<;>exact hk
     obtain ⟨e3,h',ρ',w',fr,k1,k2,k3,k4,k5,k6⟩:=ih (back u2 e1) l h1 ρ1 w1 ⟨a.tmps,ds'⟩ μ2 hk (ht.mono E1.sub) (hl.mono E1.sub) H1 hmd (hcm.mono E1.sub);exact ⟨e3,h',ρ',w',fr,k1,.head hstep (.trans hs (.head hback k2)),k3,k4,k5,E1.trans k6.1,k6.2⟩
theorem Rx:∀(args:List V) (i:Nat) (t:T V) (c:T V→Bool),Dx args (K.of i) t c=true→
  ∃t',c t'=true∧∀j,T.get und (K.of j) t'=if i≤j then (match args[j-i]? with|some v=>v|none=>T.get und (K.of j) t) else T.get und (K.of j) t:=by
 intro args;induction args with
 |nil=>intro i t c e;exact ⟨t,e,fun j=>by simp⟩
 |cons v args ih=>
  intro i t c e;simp only[Dx,T.set_eq,←K.of_succ] at e;obtain ⟨t',hc,hall⟩:=ih (i+1) _ c e;refine ⟨t',hc,fun j=>?_⟩;rw[hall j,T.get_ins];by_cases h1:j=i
  ·subst h1;rw[if_neg tO,if_pos rfl,if_pos (Nat.le_refl _)];simp
  ·rw[if_neg (fun e=>h1 (K.of_inj e))];by_cases h2:i+1≤j
   ·rw[if_pos h2,if_pos tO,show j-i=(j-(i+1))+1 by omega];simp
   ·rw[if_neg h2,if_neg tO]
def CZ (P:Program) (X:Cx) (f:Nat) (g:Eo):Prop:=
 (∀(as:Array Value) (w:World),(callFunc f as).run P w=.ok (.enter f as) w)∧
 ∀(args:List V) (h:Hp) (k:V→Hp→Bool),g args h k=true→∀(ρ:Ren) (w:World) (args':Array Value) (cs:List Frame),HR X ρ h w→VL ρ args args'.toList→
  ∃v h' ρ' w' fr,k v h'=true∧Steps P (lone (Frame.enter P f args' .normal) cs w) (lone fr cs w')∧wV P ρ' (.ret v) .normal fr w'∧HR X ρ' h' w'∧Ext ρ h w ρ' h' w'∧fr.fn=f
structure DB (P:Program) (X:Cx) (E:Env):Prop where
 fn:∀f a,T.get .no (K.of f) E.fn=.fn (some a)→∃fn,P.funcs[f]? =some fn∧cFn X.T X.ext fn=some a∧∀(as:Array Value) (w:World),(callFunc f as).run P w=.ok (.enter f as) w
 prim:∀f g,T.get .no (K.of f) E.fn=.prim g→CZ P X f g
theorem QK {T:Ty} {ext:Nat→Bool} {f:Func} {a:AFn} (h:cFn T ext f=some a):∃c,f.body=some c∧a.body=Ca T ext f.ntmps c∧uZ T f.results.toList=some a.res:=by
 unfold cFn at h;split at h
 ·rename_i c r hc hr;cases h;exact ⟨c,hc,rfl,hr⟩
 ·cases h
def O9 (P:Program) (X:Cx) (C:As) (L:Nat):Prop:=∀(n:Nat) (fi:FI) (c:Code),IR P X n c (exec C L fi (Ca X.T X.ext n c)) fi
theorem dM (hP:POK P X) {E:Env} (hE:DB P X E) {C:As} (hC:Dp P X C) {L:Nat} (hA:O9 P X C L) (f:Nat) (args:List V) (cm:Option Md) (h:Hp) (k:KC) (e:Iw C L E f args cm h k=true):
  (∀(as:Array Value) (w:World),(callFunc f as).run P w=.ok (.enter f as) w)∧
  ∀(ρ:Ren) (w:World) (args':Array Value) (kind:CallKind) (cf:FrameMode→List Frame) (μ:FrameMode),HR X ρ h w→VL ρ args args'.toList→CmR ρ cm kind cf μ→
   ∃e u h' ρ' w' μ' fr,k e u h'=true∧Steps P (lone (Frame.enter P f args' kind) (cf μ) w) (lone fr (cf μ') w')∧wV P ρ' e kind fr w'∧CmR ρ' u kind cf μ'∧HR X ρ' h' w'∧Ext ρ h w ρ' h' w'∧fr.fn=f:=by
 unfold Iw at e;split at e
 ·cases e
 ·rename_i g hg;obtain ⟨hent,hall⟩:=hE.prim f g hg;refine ⟨hent,fun ρ w args' kind cf μ H ha hcm=>?_⟩;split at e
  ·have hk:kind=.normal:=hcm;subst hk;obtain ⟨v,h',ρ',w',fr,k1,k2,k3,k4,k5⟩:=hall args h _ e ρ w args' (cf μ) H ha;exact ⟨.ret v,none,h',ρ',w',μ,fr,k1,k2,k3,rfl,k4,k5⟩
  ·cases e
 ·rename_i oa hoa;split at e
  ·cases e
  ·rename_i af;obtain ⟨body,res⟩:=af;obtain ⟨fn,hfn,hcf,hent⟩:=hE.fn f _ hoa;refine ⟨hent,fun ρ w args' kind cf μ H ha hcm=>?_⟩;obtain ⟨c,hbody,hb,hres⟩:=QK hcf;simp only at hb hres;have e:Dx args .h .l (fun t=>exec C L (.mk f none) body t (.mk [] cm) h (De C L res k))=true:=e;rw[←K.of_zero] at e;obtain ⟨t,e,ht⟩:=Rx args 0 .l _ e;subst hb;let b:Frame:={fn:=f,tmps:= #[],todo:= [],defers:= [],mode:=.run,kind:=kind}
   let a:Act:=⟨args'++Array.replicate (fn.ntmps-args'.size) undef,[]⟩
   have hlen:=ha.length;simp only[Array.length_toList] at hlen;have hent2:Frame.enter P f args' kind=b.atR a [.code c]:=by simp [Frame.enter,Frame.atR,b,a,hfn,hbody]
   have S:SR X ρ fn.ntmps b cf [] t (.mk [] cm) h a μ w:=by
    refine ⟨⟨by simp [a];omega,fun i _=>?_⟩,⟨rfl,.nil,hcm⟩,H⟩;rw[ht i,if_pos (Nat.zero_le i)];simp only[Nat.sub_zero,T.get_l];by_cases hi:i<args.length
    ·obtain ⟨v',hv',hr⟩:=ha.get (List.getElem?_eq_getElem hi);have hi':i<args'.size:=tO;rw[List.getElem?_eq_getElem hi];have:a.tmps.getD i undef=v':=by simp only[a];rw[Array.getElem?_toList] at hv';simp [Array.getElem?_append_left hi',hv']
     rw[this];exact hr
    ·rw[List.getElem?_eq_none tO];have:a.tmps.getD i undef=undef:=by simp only[a,Array.getD_eq_getD_getElem?];rw[Array.getElem?_append_right tO,Array.getElem?_replicate];split<;>rfl
     rw[this];exact .tup [] [] .nil
   rw[hent2];obtain ⟨e1,t1,d1,h1,ρ1,a1,w1,μ1,m,g1,g2,g3,g4,g5⟩:=hA fn.ntmps (.mk f none) c b cf [] _ ρ h w t a (.mk [] cm) μ S ⟨rfl,rfl⟩ e;have fin:∀(u:Md) (M:FrameMode) (q:List K) (ds:List D) (cm1:Option Md) (todo':List Item),Adc e1=q→d1=.mk ds cm1→MdR ρ1 u M→unwind C res q cm1 t1 L u ds h1 k=true→
     Steps P m (lone {b.atR a1 todo' with mode:=M} (cf μ1) w1)→
     ∃e u h' ρ' w' μ' fr,k e u h'=true∧Steps P (lone (b.atR a [.code c]) (cf μ) w) (lone fr (cf μ') w')∧wV P ρ' e kind fr w'∧CmR ρ' u kind cf μ'∧HR X ρ' h' w'∧Ext ρ h w ρ' h' w'∧fr.fn=f:=by
    intro u M q ds cm1 todo' hq hd hu hun hst;subst hq hd;obtain ⟨hro,hdr,hcm1⟩:=g4.dc;obtain ⟨e3,h',ρ',w',fr,k1,k2,k3,k4,k5,k6⟩:=Uq (b:=b) (todo:=todo') hP.toTyOK hC hfn hres L u ds h1 ρ1 w1 a1 M hun g4.tr hdr g4.hr hu hcm1;exact ⟨e3,cm1,h',ρ',w',μ1,fr,k1,.trans g2 (.trans hst k2),k3,k4,k5,g5.trans k6.1,k6.2⟩
   cases d1 with
   |rnd=>cases g1
   |mk ds cm1=>
    cases e1 with
    |normal=>have g3:m=lone (b.atR a1 []) (cf μ1) w1:=g3;subst g3;exact fin .ret .returning [] ds cm1 [] rfl rfl .ret g1 (.one (stepR_end rfl))
    |ret=>obtain ⟨todo',rfl⟩:=g3;exact fin .ret .returning [] ds cm1 _ rfl rfl .ret g1 (.one (stepR_ret rfl))
    |panic ch q=>obtain ⟨ch',todo',hper,rfl⟩:=g3;exact fin (.pan ch) (.panicking ch') q ds cm1 todo' rfl rfl (.pan _ _ hper) g1 (.refl _ _)
    |exit id=>cases g1
theorem MF {n:Nat}:∀{l:List Tmp} {ps:List K},FJ n l=some ps→∀{vs:List V} {vs':List Value} {ρ:Ren} {t:T V} {tmps:Array Value} {c:T V→Bool},VL ρ vs vs'→TR ρ [] n t tmps→CC ps vs t c=true→
  l.length=vs'.length∧∃t',c t'=true∧TR ρ [] n t' ((l.zip vs').foldl (fun tmps p=>tmps.setIfInBounds p.1 p.2) tmps):=by
 intro l;induction l with
 |nil=>
  intro ps hp vs vs' ρ t tmps c hv ht e;simp only[FJ,Option.some.injEq] at hp;subst hp;cases hv with
  |nil=>exact ⟨rfl,t,e,ht⟩
  |cons=>cases e
 |cons p l ih=>
  intro ps hp vs vs' ρ t tmps c hv ht e;simp only[FJ] at hp;split at hp
  ·rename_i hpn;split at hp
   ·rename_i r hr;simp only[Option.some.injEq] at hp;subst hp;cases hv with
    |nil=>cases e
    |cons v v' vs vs' h1 h2=>
     simp only[CC,T.set_eq] at e;have ht':TR ρ [] n (T.ins und v (K.of p) t) (tmps.setIfInBounds p v'):=by have:=TR.put (a:=⟨tmps,[]⟩) ht hpn h1;simpa [Act.put] using this
     obtain ⟨g1,t',g2,g3⟩:=ih hr h2 ht' e;exact ⟨by simp [g1],t',g2,by simpa using g3⟩
   ·cases hp
  ·cases hp
theorem MC (L:Loop) (args:Array Value):CB L args=(L.params.toList.zip args.toList).foldl (fun tmps p=>tmps.setIfInBounds p.1 p.2) L.tmps:=by unfold CB;rw[←Array.foldl_toList,Array.toList_zip]
theorem CI {r:Nat} {L:Loop} (hL:w.heap[r]? =some (.loop L)):(Instr.getLoop r).run P w=.ok L w:=by simp [Instr.getLoop,getObj,Sem.run,hL]
theorem NC {r:Nat} {L:Loop} (hL:w.heap[r]? =some (.loop L)) (o:Obj):
  ∃w',(setObj r o).run P w=.ok () w'∧w'.heap=w.heap.set! r o∧w'.os=w.os∧w'.tape=w.tape∧w'.output=w.output:=
 ⟨{w with heap:=w.heap.setIfInBounds r o},by simp [setObj,Sem.run,hL],by rw[Array.set!_eq_setIfInBounds],rfl,rfl,rfl⟩
theorem HR.loop (H:HR X ρ h w) {l:K} {r:RB} (hr:ρ l=some r) {st:LSt} {j:Jmp} {f:Nat} {t:T V} {ps:List K} {x y:Aa} {D:K} (hb:blk h l=.loop st j f t ps x y D):
  ∃L:Loop,w.heap[r.blk]? =some (.loop L)∧StR st L.state∧JR j L.pending∧L.fn=f∧(∃n,TR ρ [] n t L.tmps∧Add n ps L.params.toList∧x=Ca X.T X.ext n L.assign∧y=Ca X.T X.ext n L.body)∧(∃rD,ρ D=some rD∧L.defers=rD.blk)∧
   ∀(st':LSt) (j':Jmp) (st1:LoopState) (j1:Option Code),StR st' st1→JR j' j1→∃w',(setObj r.blk (.loop {L with state:=st1,pending:=j1})).run P w=.ok () w'∧w'.heap[r.blk]? =some (.loop {L with state:=st1,pending:=j1})∧
    HR X ρ (h.upd l (.loop st' j' f t ps x y D)) w'∧Ext ρ h w ρ (h.upd l (.loop st' j' f t ps x y D)) w':=by
 have hbn:blk h l≠.none:=by rw[hb];simp
 obtain ⟨o,ho,hbr⟩:=H.live l r hbn hr;rw[hb] at hbr;obtain ⟨L,n,rD,rfl,h1,h2,h3,h4,h5,h6,h7,h8,h9⟩:=hbr;refine ⟨L,ho,h1,h2,h3,⟨n,h4,h5,h6,h7⟩,⟨rD,h8,h9⟩,fun st' j' st1 j1 hs hj=>?_⟩;obtain ⟨w',g1,g2,g3,g4,g5⟩:=NC (P:=P) ho (.loop {L with state:=st1,pending:=j1});obtain ⟨H',E⟩:=H.turn hbn hr (.loop st' j' f t ps x y D) _ w' g2 g3 g4 g5 ⟨_,n,rD,rfl,hs,hj,h3,h4,h5,h6,h7,h8,h9⟩;refine ⟨w',g1,?_,H',E⟩;have hlt:=H.lt hbn hr;rw[g2];simp [Array.set!_eq_setIfInBounds,hlt]
theorem hZ {E:Env} (hE:DB P X E) {f:Nat} {c:Bool} (e:ig E f c=true):(∃fn,P.funcs[f]? =some fn)∧c=true:=by
 unfold ig at e;split at e
 ·cases e
 ·cases e
 ·rename_i oa hoa;split at e
  ·cases e
  ·obtain ⟨fn,hfn,_⟩:=hE.fn f _ hoa;exact ⟨⟨fn,hfn⟩,e⟩
theorem Gt {h:Hp} {l:K} {st:LSt} {j:Jmp} {c:Hp→Bool} (e:Ey h l st j c=true):
  ∃st0 j0 f t ps x y D,blk h l=.loop st0 j0 f t ps x y D∧c (h.upd l (.loop st j f t ps x y D))=true:=by
 unfold Ey at e;split at e
 ·rename_i st0 j0 f t ps x y D hb;rw[AK] at e;exact ⟨st0,j0,f,t,ps,x,y,D,hb,e⟩
 ·cases e
theorem Nc {E:Env} (hE:DB P X E) {C:As} {L:Nat} (hA:O9 P X C L) (l:K) (args:List V) (h:Hp) (k:KC) (e:EN C L E l args h k=true):
  ∀(ρ:Ren) (w:World) (args':Array Value) (r:RB),ρ l=some r→HR X ρ h w→VL ρ args args'.toList→
  ∃L:Loop,w.heap[r.blk]? =some (.loop L)∧L.params.size=args'.size∧∀(c:Frame) (cs:List Frame),∃e h' ρ' w' m,k e none h'=true∧
   Steps P (lone (Frame.round r.blk L.fn (CB L args') L.assign L.body .normal) (c::cs) w) m∧qc ρ' e c cs w' m∧HR X ρ' h' w'∧Ext ρ h w ρ' h' w':=by
 intro ρ w args' r hr H ha;unfold EN at e;split at e
 ·rename_i st j f t ps x y D hb;obtain ⟨⟨fn,hfn⟩,e⟩:=hZ hE e;obtain ⟨Lp,hL,hst,hj,hf,⟨n,ht,hps,hx,hy⟩,_,_⟩:=H.loop (P:=P) hr hb;obtain ⟨hlen,t0,e,ht0⟩:=MF hps ha ht e;refine ⟨Lp,hL,by simpa using hlen,fun c cs=>?_⟩;subst hx hy;let b:Frame:={fn:=Lp.fn,tmps:= #[],todo:= [],defers:= [],mode:=.run,kind:=.normal,roundOf:=some r.blk}
  have hround:Frame.round r.blk Lp.fn (CB Lp args') Lp.assign Lp.body .normal=b.atR ⟨CB Lp args',[]⟩ (.code Lp.assign:: [.beginRound,.code Lp.body]):=rfl;rw[hround];have S:SR X ρ n b (fun _=>c::cs) [] t0 .rnd h ⟨CB Lp args',[]⟩ .run w:=⟨by rw[MC];exact ht0,⟨rfl,⟨_,rfl⟩,rfl⟩,H⟩
  obtain ⟨e1,t1,d1,h1,ρ1,a1,w1,μ1,m1,g1,g2,g3,g4,g5⟩:=hA n (.mk f (some l)) Lp.assign b (fun _=>c::cs) [.beginRound,.code Lp.body] _ ρ h w t0 _ .rnd .run S ⟨hf,r,hr,rfl⟩ e;cases e1 with
  |normal=>
   have g3:m1=lone (b.atR a1 [.beginRound,.code Lp.body]) (c::cs) w1:=g3;subst g3;have g1:EY l h1 (fun h2=>exec C L (.mk f (some l)) (Ca X.T X.ext n Lp.body) t1 d1 h2 fun e _ _ h3=>EX l k e h3)=true:=g1;unfold EY at g1;split at g1
   ·rename_i st1 j1 f1 tt1 ps1 x1 y1 D1 hb1;split at g1
    ·rw[AK] at g1;have hr1:=g5.sub _ _ hr;obtain ⟨L1,hL1,hst1,hj1,hf1,_,_,hset⟩:=g4.hr.loop (P:=P) hr1 hb1;obtain ⟨w2,hw2,_,H2,E2⟩:=hset .busy j1 .busy L1.pending rfl hj1;have hbegin:(Instr.beginRound r.blk).run P w1=.ok () w2:=by have hs:L1.state=.ready:=hst1;have hw2':(setObj r.blk (.loop {L1 with state:=.busy})).run P w1=.ok () w2:=hw2;simp [Instr.beginRound,CI hL1,hw2',hs]
     have hstep:=stepR_beginRound (P:=P) (b:=b) (a:=a1) (k:= [.code Lp.body]) (cs:=c::cs) (w:=w1) rfl hbegin;have S2:SR X ρ1 n b (fun _=>c::cs) [] t1 d1 (h1.upd l (.loop .busy j1 f1 tt1 ps1 x1 y1 D1)) a1 μ1 w2:=⟨g4.tr,g4.dc,H2⟩
     obtain ⟨e2,t2,d2,h3,ρ2,a2,w3,μ2,m2,k1,k2,k3,k4,k5⟩:=hA n (.mk f (some l)) Lp.body b (fun _=>c::cs) [] _ ρ1 _ w2 t1 a1 d1 μ1 S2 ⟨hf,r,hr1,rfl⟩ g1;have hr2:=k5.sub _ _ hr1;have EE:=g5.trans (E2.trans k5);have steps:=Steps.trans g2 (.head hstep k2);cases e2 with
     |normal=>
      obtain ⟨st0,j0,f0,tt0,ps0,x0,y0,D0,hb0,hk⟩:=Gt k1;obtain ⟨L3,hL3,_,_,_,_,_,hset3⟩:=k4.hr.loop (P:=P) hr2 hb0;obtain ⟨w4,hw4,_,H4,E4⟩:=hset3 .ready .none .ready none rfl rfl;have hend:(Instr.endRound r.blk none).run P w3=.ok (.bool true) w4:=by simp [Instr.endRound,CI hL3,hw4]
      have k3:m2=lone (b.atR a2 []) (c::cs) w3:=k3;subst k3;exact ⟨_,_,ρ2,w4,_,hk,.trans steps (.one (stepR_round_end (b:=b) rfl rfl hend)),⟨_,.bool true,rfl⟩,H4,EE.trans E4⟩
     |ret=>
      obtain ⟨st0,j0,f0,tt0,ps0,x0,y0,D0,hb0,hk⟩:=Gt k1;obtain ⟨L3,hL3,_,_,_,_,_,hset3⟩:=k4.hr.loop (P:=P) hr2 hb0;obtain ⟨w4,hw4,_,H4,E4⟩:=hset3 .done .ret .done (some .ret) rfl rfl;have hend:(Instr.endRound r.blk (some .ret)).run P w3=.ok (.bool false) w4:=by simp [Instr.endRound,CI hL3,hw4]
      obtain ⟨todo',rfl⟩:=k3;exact ⟨_,_,ρ2,w4,_,hk,.trans steps (.one (stepR_round_ret (b:=b) rfl rfl hend)),⟨_,.bool false,rfl⟩,H4,EE.trans E4⟩
     |exit id=>
      obtain ⟨st0,j0,f0,tt0,ps0,x0,y0,D0,hb0,hk⟩:=Gt k1;obtain ⟨L3,hL3,_,_,_,_,_,hset3⟩:=k4.hr.loop (P:=P) hr2 hb0;obtain ⟨w4,hw4,_,H4,E4⟩:=hset3 .done (.exit id) .done (some (.exit id)) rfl rfl;have hend:(Instr.endRound r.blk (some (.exit id))).run P w3=.ok (.bool false) w4:=by simp [Instr.endRound,CI hL3,hw4]
      obtain ⟨todo',hx,rfl⟩:=k3;exact ⟨_,_,ρ2,w4,_,hk,.trans steps (.one (stepR_round_exit (b:=b) rfl rfl hx hend)),⟨_,.bool false,rfl⟩,H4,EE.trans E4⟩
     |panic ch q=>
      obtain ⟨ch',todo',hper,rfl⟩:=k3;have hds:a2.defers= []:=by
       have:=k4.dc;cases d2 with
       |mk ds cm=>obtain ⟨h0,_⟩:=this;cases h0
       |rnd=>exact this.2.2
      refine ⟨.pan ch,h3,ρ2,w3,_,k1,.trans steps (.one (step_leave_panicked (chain:=ch') ⟨rfl,hds,fn,?_⟩)),⟨ch',hper,rfl⟩,k4.hr,EE⟩;show P.funcs[Lp.fn]? =some fn;rw[hf];exact hfn
    ·cases g1
   ·cases g1
  |ret=>cases g1
  |exit id=>cases g1
  |panic ch q=>cases g1
 ·cases e
end
end Go.AJ
namespace Go.AJ
open Go
variable [BN]
section
variable {P:Program} {X:Cx} {ρ:Ren} {h:Hp} {w:World} {t:T V} {a:Act} {b:Frame} {cf:FrameMode→List Frame} {μ:FrameMode} {todo:List Item} {n:Nat}
theorem tX {j:Jmp} {c:Option Code} {d:Dc} {k:KE} (hj:JR j c) (S:SR X ρ n b cf [] t d h a μ w) (e:JC j t d h k=true):
  ExOut P X ρ h w n b cf todo k (lone (b.atR a ((c.map Item.code).toList++todo)) (cf μ) w):=by
 cases j with
 |none=>have hj:c=none:=hj;subst hj;exact ⟨.normal,t,d,h,ρ,a,w,μ,_,e,.refl _ _,rfl,S,Ext.refl _ _ _⟩
 |ret=>have hj:c=some .ret:=hj;subst hj;exact ⟨.ret,t,d,h,ρ,a,w,μ,_,e,.refl _ _,⟨todo,rfl⟩,S,Ext.refl _ _ _⟩
 |exit id=>have hj:c=some (.exit id):=hj;subst hj;exact ⟨.exit id,t,d,h,ρ,a,w,μ,_,e,.refl _ _,⟨todo,rfl,rfl⟩,S,Ext.refl _ _ _⟩
theorem Ru {C:As} (hC:Dp P X C) {D:K} {rD:RB} {ds:List Deferred} {d:Dc} {fv:V} {fv':Value} {ps:Array Tmp} {ps':List K} {x y:Code} {k:KE} (H:HR X ρ h w) (ht:TR ρ [] n t a.tmps) (hD:ρ D=some rD)
  (hdc:DcR ρ b cf μ d ds) (hv:VR ρ fv fv') (hps:FJ n ps.toList=some ps') (e:Fv C b.fn fv ps' (Ca X.T X.ext n x) (Ca X.T X.ext n y) D t d h k=true):
  ∃g fs cs,fv'=.func (.func g) fs cs∧(∀(as:Array Value) (w:World),(callFunc g as).run P w=.ok (.enter g as) w)∧
   ExOut P X ρ h w n b cf todo k (lone (Frame.enter P g (fs++ #[.func (.yield w.heap.size) #[] #[]]++cs) .normal) (b.atR ⟨a.tmps,ds⟩ (.inRangeFunc w.heap.size::todo)::cf μ)
    (w.alloc (.loop {state:=.ready,pending:=none,fn:=b.fn,tmps:=a.tmps,params:=ps,assign:=x,body:=y,defers:=rD.blk}))):=by
 cases hv with
 |fn g fs cs fs' cs' hfs hcs=>
  refine ⟨g,⟨fs'⟩,⟨cs'⟩,rfl,?_⟩;simp only[Fv,Ar] at e;have hn:ρ (nxt h)=none:=H.fresh (Nat.le_refl _);have hsub:=Ren.add_sub (r:=⟨w.heap.size,0,0,0,0⟩) hn;obtain ⟨H1,E1⟩:=H.newName (.loop .ready .none b.fn t ps' (Ca X.T X.ext n x) (Ca X.T X.ext n y) D) ⟨w.heap.size,0,0,0,0⟩
   (.loop {state:=.ready,pending:=none,fn:=b.fn,tmps:=a.tmps,params:=ps,assign:=x,body:=y,defers:=rD.blk}) _ rfl rfl
   ⟨_,n,rD,rfl,rfl,rfl,rfl,ht.mono hsub,hps,rfl,rfl,hsub _ _ hD,rfl⟩
  have hl:(ρ.add (nxt h) ⟨w.heap.size,0,0,0,0⟩) (nxt h)=some ⟨w.heap.size,0,0,0,0⟩:=Ren.add_same _ _ _;obtain ⟨hent,hall⟩:=hC.fn _ _ _ _ _ e;refine ⟨hent,?_⟩;obtain ⟨e1,u,h2,ρ2,w2,μ2,fr,hk,hs,hend,_,H2,E2,_⟩:=hall _ _ ((⟨fs'⟩:Array Value)++ #[.func (.yield w.heap.size) #[] #[]]++⟨cs'⟩) .normal (fun _=>b.atR ⟨a.tmps,ds⟩ (.inRangeFunc w.heap.size::todo)::cf μ) .run H1
   (by simpa using (hfs.mono hsub).append (.cons _ _ _ _ (.yld _ _ hl) (hcs.mono hsub))) rfl
  have EE:=E1.trans E2;have hl2:=E2.sub _ _ hl;cases e1 with
  |ret v=>
   obtain ⟨v',hv,hm,hds,hkd,fn,hfn,hres⟩:=hend;have h3:=step_leave_returned (P:=P) (fr:=fr) (c:=b.atR ⟨a.tmps,ds⟩ (.inRangeFunc w.heap.size::todo)) (cs:=cf μ) (w:=w2) (v:=v') ⟨hm,hds,hkd,fn,hfn,hres⟩;rw[finish_atR_inRangeFunc] at h3;have hk:FX (nxt h) t d k (.ret v) h2=true:=hk;simp only[FX] at hk;split at hk
   ·rename_i st j f0 t0 ps0 x0 y0 D0 hb;split at hk
    ·cases hk
    ·rename_i hnb;rw[AK] at hk;obtain ⟨Lp,hL,hst,hj,_,_,_,hset⟩:=H2.loop (P:=P) hl2 hb;obtain ⟨w3,hw3,_,H3,E3⟩:=hset .exhausted j .exhausted Lp.pending rfl hj;have hbusy:(Lp.state==.busy)=false:=by
      cases st with
      |ready=>have:Lp.state=.ready:=hst;rw[this];rfl
      |busy=>exact (hnb rfl).elim
      |done=>have:Lp.state=.done:=hst;rw[this];rfl
      |exhausted=>have:Lp.state=.exhausted:=hst;rw[this];rfl
     have hendl:(Instr.endLoop w.heap.size).run P w2=.ok Lp.pending w3:=by have hw3':(setObj w.heap.size (.loop {Lp with state:=.exhausted})).run P w2=.ok () w3:=hw3;have hg:(Instr.getLoop w.heap.size).run P w2=.ok Lp w2:=CI hL;simp only[Instr.endLoop,Sem.run_bind,hg,Result.andThen_ok,hbusy,Bool.false_eq_true,if_false,Sem.run_pure,hw3']
     have h4:=stepR_endRangeFunc (P:=P) (b:=b) (a:=⟨a.tmps,ds⟩) (k:=todo) (cs:=cf μ) hendl;have EEE:=EE.trans E3;exact D6 (.trans hs (.head h3 (.one h4))) EEE (tX hj ⟨ht.mono EEE.sub,hdc.mono EEE.sub,H3⟩ hk)
   ·cases hk
  |pan ch=>obtain ⟨ch',hper,hm,hds,fn,hfn⟩:=hend;have h3:=step_leave_panicked (P:=P) (fr:=fr) (c:=b.atR ⟨a.tmps,ds⟩ (.inRangeFunc w.heap.size::todo)) (cs:=cf μ) (w:=w2) (chain:=ch') ⟨hm,hds,fn,hfn⟩;rw[Frame.raise_atR] at h3;exact ⟨.panic ch [],t,d,h2,ρ2,⟨a.tmps,ds⟩,w2,μ,_,hk,.trans hs (.one h3),⟨ch',_,hper,rfl⟩,⟨ht.mono EE.sub,hdc.mono EE.sub,H2⟩,EE⟩
 |_=>simp [Fv] at e
theorem TA (a:Act) (v:Value):a.eval (.const v)=v:=rfl
theorem fo {C:As} (hC:Dp P X C) (L:Nat) (fi:FI) (f:Operand) (ps:Array Tmp) (x y:Code):IR P X n (.rangeFunc f ps x y) (exec C L fi (Ca X.T X.ext n (.rangeFunc f ps x y))) fi:=by
 intro b cf todo k ρ h w t a d μ S F e;simp only[Ca] at e;split at e
 ·rename_i f' ps' hf hps;have hv:=uk (ρ:=ρ) S.tr (x:=f) (by simp) _ hf;obtain ⟨fn,r⟩:=fi;obtain ⟨hfn,hr⟩:=F;subst hfn;have e:DU C (.mk b.fn r) (ev t f') ps' (Ca X.T X.ext n x) (Ca X.T X.ext n y) t d h k=true:=e
  have go:∀(ρ1:Ren) (h1:Hp) (w1:World) (D:K) (rD:RB) (mark:List Deferred) (d1:Dc),HR X ρ1 h1 w1→Ext ρ h w ρ1 h1 w1→ρ1 D=some rD→DcR ρ1 b cf μ d1 (mark++a.defers)→
    (Instr.enterLoop b.fn a.tmps ps x y b.roundOf).run P w=.ok (w1.heap.size,mark) (w1.alloc (.loop {state:=.ready,pending:=none,fn:=b.fn,tmps:=a.tmps,params:=ps,assign:=x,body:=y,defers:=rD.blk}))→
    Fv C b.fn (ev t f') ps' (Ca X.T X.ext n x) (Ca X.T X.ext n y) D t d1 h1 k=true→ExOut P X ρ h w n b cf todo k (lone (b.atR a (.code (.rangeFunc f ps x y)::todo)) (cf μ) w):=by
   intro ρ1 h1 w1 D rD mark d1 H1 E1 hD hdc hent e;obtain ⟨g,fs,cs,hq,hen,hx⟩:=Ru (a:=a) (todo:=todo) hC H1 (S.tr.mono E1.sub) hD hdc (hv.mono E1.sub) hps e;have hres:∀w2:World,(resolve a.eval (rangeCall f w1.heap.size) 0).run P w2=.ok ⟨.fn (.func g) cs,fs++ #[.func (.yield w1.heap.size) #[] #[]]⟩ w2:=fun w2=>by simp [resolve,rangeCall,hq,Deferred.ofValue,TA]
   have hinv:∀w2:World,(invoke (.fn (.func g) cs) (fs++ #[.func (.yield w1.heap.size) #[] #[]])).run P w2=.ok (.enter g (fs++ #[.func (.yield w1.heap.size) #[] #[]]++cs)) w2:=fun w2=>by simp only[invoke];exact hen _ _
   have hstep:=stepR_rangeFunc (P:=P) (b:=b) (a:=a) (k:=todo) (cs:=cf μ) (w:=w) (g:=f) (ps:=ps) (assign:=x) (body:=y) hent (hres _) (hinv _);exact D6 (.one hstep) E1 hx
  cases r with
  |some l=>
   obtain ⟨rl,hl,hro⟩:=hr;simp only[DU] at e;split at e
   ·rename_i st j f0 t0 ps0 x0 y0 D hb;obtain ⟨Lp,hL,_,_,_,_,⟨rD,hD,hLD⟩,_⟩:=S.hr.loop (P:=P) hl hb;refine go ρ h w D rD [] d S.hr (Ext.refl _ _ _) hD (by simpa using S.dc) ?_ e;rw[hro];simp [Instr.enterLoop,CI hL,hLD]
   ·cases e
  |none=>
   have hr:b.roundOf=none:=hr;simp only[DU] at e;split at e
   ·rename_i ds cm _;rw[Ar] at e;obtain ⟨H1,E1⟩:=S.hr.newName (.dfr []) ⟨w.heap.size,0,0,0,0⟩ (.deferred (some [])) _ rfl rfl ⟨[],rfl,.nil⟩;have hD:(ρ.add (nxt h) ⟨w.heap.size,0,0,0,0⟩) (nxt h)=some ⟨w.heap.size,0,0,0,0⟩:=Ren.add_same _ _ _;obtain ⟨g1,g2,g3⟩:=S.dc;refine go _ _ (w.alloc (.deferred (some []))) (nxt h) _ [⟨.collected w.heap.size, #[]⟩] (.mk (.coll (nxt h)::ds) cm) H1 E1 hD ⟨g1,.coll _ _ _ _ hD (g2.mono E1.sub),g3.mono E1.sub⟩ ?_ e;rw[hr];simp [Instr.enterLoop]
   ·cases e
 ·cases e
end
end Go.AJ
namespace Go.AJ
open Go
variable [BN]
theorem Fb {f:V→V→Bool} (hf:∀a b,f a b=true→a=b):∀(x y:List V),Cd f x y=true→x=y:=by
 intro x;induction x with
 |nil=>intro y e;cases y with
  |nil=>rfl
  |cons _ _=>cases e
 |cons a x ih=>
  intro y e;cases y with
  |nil=>cases e
  |cons b y=>
   simp only[Cd] at e;split at e
   ·rename_i h;rw[hf _ _ h,ih _ e]
   ·cases e
theorem Jg {l l':List V} (e:HN l l'=true):l=l':=by
 unfold HN at e;split at e
 ·assumption
 ·cases e
theorem Pb:∀(n:Nat) (x y:V),veq n x y=true→x=y:=by
 intro n;induction n with
 |zero=>intro x y e;cases e
 |succ n ih=>
  intro x y e;cases x<;>cases y<;>simp only[veq,Bool.false_eq_true] at e
  case int.int k a k' b=>
   split at e
   ·rename_i hk;have:k=k':=by simpa [kEq] using hk
    rw[this,Au.1 e]
   ·cases e
  case bool.bool a b=>cases a<;>cases b<;>simp_all
  case str.str a b=>rw[Cj.1 e]
  case nilp.nilp=>rfl
  case ptr.ptr b o b' o'=>
   split at e
   ·rename_i hb;rw[K.beq_eq hb,Nat.eq_of_beq_eq_true e]
   ·cases e
  case nils.nils=>rfl
  case sl.sl b o l c p b' o' l' c' p'=>
   split at e
   ·rename_i h1;split at e
    ·rename_i h2;split at e
     ·rename_i h3;split at e
      ·rename_i h4;rw[K.beq_eq h1,Nat.eq_of_beq_eq_true h2,Nat.eq_of_beq_eq_true h3,Nat.eq_of_beq_eq_true h4,Nat.eq_of_beq_eq_true e]
      ·cases e
     ·cases e
    ·cases e
   ·cases e
  case nilm.nilm=>rfl
  case map.map b b'=>rw[K.beq_eq e]
  case fn.fn f a c f' a' c'=>
   split at e
   ·rename_i h1;split at e
    ·rename_i h2;rw[Nat.eq_of_beq_eq_true h1,Fb ih _ _ h2,Fb ih _ _ e]
    ·cases e
   ·cases e
  case yld.yld l l'=>rw[K.beq_eq e]
  case nilf.nilf=>rfl
  case ifc.ifc t v t' v'=>
   split at e
   ·rename_i h1;rw[Nat.eq_of_beq_eq_true h1,ih _ _ e]
   ·cases e
  case nili.nili=>rfl
  case agg.agg l l'=>rw[Fb ih _ _ e]
  case esl.esl=>rfl
  case rp.rp l o l' o'=>
   split at e
   ·rename_i h1;rw[Nat.eq_of_beq_eq_true h1,Jg e]
   ·cases e
  case rsl.rsl l o m c l' o' m' c'=>
   split at e
   ·rename_i h1;split at e
    ·rename_i h2;split at e
     ·rename_i h3;rw[Nat.eq_of_beq_eq_true h1,Nat.eq_of_beq_eq_true h2,Nat.eq_of_beq_eq_true h3,Jg e]
     ·cases e
    ·cases e
   ·cases e
  case tup.tup l l'=>rw[Fb ih _ _ e]
theorem HE {h:Hp} {b:K} {l:List V} (e:GQ h b l=true):blk h b=.cells l:=by
 unfold GQ at e;split at e
 ·rename_i l' hb;rw[hb,Fb (Pb 40) _ _ e]
 ·cases e
end Go.AJ
namespace Go.AJ
open Go
variable [BN]
section
variable {P:Program} {X:Cx} {ρ:Ren} {h:Hp} {w:World}
theorem HR.nameGhost (H:HR X ρ h w) {b:K} (hb:ρ b=none) (hlt:b.num<(nxt h).num) (r:RB) (o:Obj) (hr:r.blk=w.heap.size) (hx:BR X (ρ.add b r) r (blk h b) o):HR X (ρ.add b r) h (w.alloc o):=by
 have hsub:=Ren.add_sub (r:=r) hb;have old:∀i,i<w.heap.size→(w.alloc o).heap[i]? =w.heap[i]? :=fun i hi=>by show (w.heap.push o)[i]? =_;rw[Array.getElem?_push,if_neg (Nat.ne_of_lt hi)]
 have atn:(w.alloc o).heap[w.heap.size]? =some o:=by show (w.heap.push o)[w.heap.size]? =_;rw[Array.getElem?_push,if_pos rfl]
 refine ⟨?_,?_,?_,H.free,Nat.le_trans H.bsz (by simp),fun i hi=>(old i (Nat.lt_of_lt_of_le hi H.bsz)).trans (H.bas i hi),fun b' r' hb' hr'=>?_⟩
 ·intro b' r' hb' hr';by_cases e:b'=b
  ·subst e;rw[Ren.add_same] at hr';cases hr';exact ⟨o,by rw[hr];exact atn,hx⟩
  ·rw[Ren.add_other _ _ e] at hr';obtain ⟨o',ho',hbr⟩:=H.live b' r' hb' hr';exact ⟨o',by rw[old _ (H.lt hb' hr')];exact ho',hbr.mono hsub⟩
 ·intro b1 b2 r1 r2 h1 h2 e1 e2 e;by_cases f1:b1=b<;>by_cases f2:b2=b
  ·rw[f1,f2]
  ·exfalso;subst f1;rw[Ren.add_same] at e1;cases e1;rw[Ren.add_other _ _ f2] at e2;have:=H.lt h2 e2;omega
  ·exfalso;subst f2;rw[Ren.add_same] at e2;cases e2;rw[Ren.add_other _ _ f1] at e1;have:=H.lt h1 e1;omega
  ·rw[Ren.add_other _ _ f1] at e1;rw[Ren.add_other _ _ f2] at e2;exact H.inj b1 b2 r1 r2 h1 h2 e1 e2 e
 ·intro b' r' hr';by_cases e:b'=b
  ·subst e;exact hlt
  ·rw[Ren.add_other _ _ e] at hr';exact H.dom b' r' hr'
 ·by_cases e:b'=b
  ·subst e;rw[Ren.add_same] at hr';cases hr';rw[hr];exact H.bsz
  ·rw[Ren.add_other _ _ e] at hr';exact H.bhi b' r' hb' hr'
theorem Ext.nameGhost {ρ0:Ren} {h0:Hp} {w0:World} (E:Ext ρ0 h0 w0 ρ h w) {b:K} (hb:ρ b=none) (hge:(nxt h0).num≤b.num) (r:RB) (o:Obj) (hr:r.blk=w.heap.size):Ext ρ0 h0 w0 (ρ.add b r) h (w.alloc o):=by
 have hsub:=Ren.add_sub (r:=r) hb;refine ⟨fun b' r' e=>hsub _ _ (E.sub _ _ e),fun b' r' e=>?_,E.nx,E.afr,Nat.le_trans E.size (by simp),fun i hi hne=>?_,fun b' r' hb' e=>?_,E.os,E.tape,E.out⟩
 ·by_cases f:b'=b
  ·subst f;exact .inr hge
  ·rw[Ren.add_other _ _ f] at e;exact E.new _ _ e
 ·rw[←E.cfr i hi hne];show (w.heap.push o)[i]? =_;rw[Array.getElem?_push,if_neg (Nat.ne_of_lt (Nat.lt_of_lt_of_le hi E.size))]
 ·by_cases f:b'=b
  ·subst f;rw[Ren.add_same] at e;cases e;exact .inr (by rw[hr];exact E.size)
  ·rw[Ren.add_other _ _ f] at e;exact E.img _ _ hb' e
end
end Go.AJ
namespace Go.AJ
open Go
variable [BN]
section
variable {t:T V} {h:Hp} {c:KV}
theorem MN {α:Type} {l:List α} {n:Nat} {c:α→Bool} (e:nth l n c=true):∃x,c x=true:=by obtain ⟨x,_,hx⟩:=H0 _ _ _ e;exact ⟨x,hx⟩
theorem Qy {b:K} {c:List V→Bool} (e:cellsOf h b c=true):∃l,c l=true:=by obtain ⟨l,_,hl⟩:=BQ e;exact ⟨l,hl⟩
theorem JV {n:Nat} {l:List V} {c:List V→Bool} (e:Et n l c=true):∃r,c r=true:=⟨_,(ET _ _ _ e).2⟩
theorem H9 {k:IntKind} {n:Int} (e:mkI k n h c=true):∃v,c v h=true:=⟨_,Fj e⟩
theorem P7 {b:Bool} (e:mkB b h c=true):∃v,c v h=true:=⟨_,C8 e⟩
theorem bt {op : IOp} {k k' : IntKind} {a b : Int} (e : C7 op k k' a b h c = true) : ∃ v, c v h = true := by
  have hs : ∀ {p : Bool}, BO k k' p = true → p = true := fun q => (Be q).2
  cases op <;> simp only [C7] at e
  case add => exact H9 (hs e)
  case sub => exact H9 (hs e)
  case mul => exact H9 (hs e)
  case quo => split at e
              · cases e
              · exact H9 (hs e)
  case rem => split at e
              · cases e
              · have := hs e; rw [F2] at this; exact ⟨_, this⟩
  case and => exact ⟨_, E6 (.inl ⟨rfl, rfl⟩) (hs e)⟩
  case or => exact ⟨_, E6 (.inr (.inl ⟨rfl, rfl⟩)) (hs e)⟩
  case xor => exact ⟨_, E6 (.inr (.inr ⟨rfl, rfl⟩)) (hs e)⟩
  case shl => unfold zb at e; split at e
              · exact H9 e
              · cases e
  case shr => unfold wS at e; split at e
              · split at e
                · rw [AF] at e; exact ⟨_, e⟩
                · cases e
              · cases e
  all_goals exact P7 (hs e)
theorem Il {q:CK} {x y:V} {c:Bool→Bool} (e:Bk q x y c=true):∃r,c r=true:=by
 unfold Bk at e;split at e
 ·split at e
  ·split at e
   ·exact ⟨_,(Be e).2⟩
   ·cases e
  ·cases e
 ·split at e
  ·split at e
   ·exact ⟨_,e⟩
   ·cases e
  ·cases e
 ·split at e
  ·split at e
   ·split at e
    ·exact ⟨_,e⟩
    ·exact ⟨_,e⟩
   ·cases e
  ·cases e
theorem TD:∀{l:List CK} {x y:List V} {c:Bool→Bool},BM l x y c=true→∃r,c r=true:=by
 intro l;induction l with
 |nil=>intro x y c e;cases x<;>cases y<;>first|exact ⟨_,e⟩|cases e
 |cons q l ih=>
  intro x y c e;cases x with
  |nil=>cases e
  |cons a x=>
   cases y with
   |nil=>cases e
   |cons b y=>
    simp only[BM] at e;obtain ⟨r,hr⟩:=Il e;cases r with
    |true=>exact ih hr
    |false=>exact ⟨_,hr⟩
theorem zH {q:EK} {x y:V} {c:Bool→Bool} (e:eqK q x y c=true):∃r,c r=true:=by
 cases q with
 |bool=>exact Il (q:=.bool) (x:=x) (y:=y) (by simpa only[eqK] using e)
 |cells l=>cases x<;>first|(cases e;done)|(cases y<;>first|(cases e;done)|exact TD e)
 |_=>cases x<;>first|(cases e;done)|(cases y<;>first|(cases e;done)|exact ⟨_,e⟩)
theorem bS {q:CK} {k z:V}:∀{es:List ME} {c:V→Bool→Bool},F0 q k z es c=true→∃v b,c v b=true:=by
 intro es;induction es with
 |nil=>intro c e;exact ⟨_,_,e⟩
 |cons x es ih=>
  intro c e;cases x with
  |mk k' v' b=>
   simp only[F0] at e;obtain ⟨r,hr⟩:=Il e;cases r with
   |true=>exact ⟨_,_,hr⟩
   |false=>exact ih hr
theorem IC {v:Option V} {m d:Nat} {c:Nat→Bool} (e:bnd v m d c=true):∃n,c n=true:=by
 unfold bnd at e;split at e
 ·exact ⟨_,e⟩
 ·split at e
  ·split at e
   ·split at e
    ·exact ⟨_,e⟩
    ·cases e
   ·cases e
  ·cases e
theorem cT:∀{ps:List (Nat×Nat×X)} {z:List V} {c:List V→Bool},fill t ps z c=true→∃r,c r=true:=by
 intro ps;induction ps with
 |nil=>intro z c e;exact ⟨_,e⟩
 |cons p ps ih=>
  intro z c e;obtain ⟨off,sz,x⟩:=p;simp only[fill] at e;have:∃q,BP q sz (AN off z q fun z'=>fill t ps z' c)=true:=by
   unfold Ba at e;split at e
   ·exact ⟨_,e⟩
   ·cases e
   ·exact ⟨_,e⟩
  obtain ⟨q,e⟩:=this;exact ih (Ev _ _ _ _ (F1 _ _ _ e).2).2
theorem zd {mx:Bool}:∀{l:List V} {x:V} {c:V→Bool},Oa mx l x c=true→∃v,c v=true:=by
 intro l;induction l with
 |nil=>intro x c e;exact ⟨_,e⟩
 |cons y l ih=>
  intro x c e;simp only[Oa] at e;unfold mxn at e;split at e
  ·split at e
   ·replace e:=(Be e).2;split at e<;>split at e<;>exact ih e
   ·cases e
  ·cases e
theorem Pu {l:List V} {off n:Nat} {agg:Bool} (e:NQ l off n agg h c=true):∃v,c v h=true:=by
 unfold NQ at e;split at e
 ·obtain ⟨r,hr⟩:=JV e;exact ⟨_,hr⟩
 ·exact MN e
theorem MV {l:List V} {off n sz:Nat} {i:Int} (e:Ii l off n sz i h c=true):∃v,c v h=true:=by obtain ⟨m,_,_,hc⟩:=Ih e;exact ⟨_,hc⟩
theorem Qf {b:K} {off n sz:Nat} {i:Int} (e:Kz b off n sz i h c=true):∃v,c v h=true:=by obtain ⟨m,_,_,hc⟩:=Ky e;exact ⟨_,hc⟩
theorem Uz {op:AOp} (hs:Cn op=.simple) (e:Fu op t h c=true):∃v,c v h=true:=by
 cases op<;>simp only[Cn,reduceCtorEq] at hs<;>simp only[Fu] at e
 case mv x=>exact ⟨_,e⟩
 case pick q a b=>unfold IX at e;(repeat' split at e)<;>first|exact ⟨_,e⟩|cases e
 case load1 x=>
  unfold BU at e;split at e
  ·obtain ⟨l,hl⟩:=Qy e;exact MN hl
  ·exact MN e
  ·cases e
 case loadN x n=>
  unfold CV at e;split at e
  ·split at e
   ·exact ⟨_,e⟩
   ·obtain ⟨l,hl⟩:=Qy e;obtain ⟨r,hr⟩:=JV hl;exact ⟨_,hr⟩
  ·obtain ⟨r,hr⟩:=JV e;exact ⟨_,hr⟩
  ·cases e
 case addOff x n=>unfold CL at e;split at e<;>first|(rw[AF] at e;exact ⟨_,e⟩)|cases e
 case ibin o x y=>unfold AU at e;(repeat' split at e)<;>first|exact bt e|cases e
 case sbin o x y=>
  unfold Fw at e;split at e
  ·split at e
   ·unfold PZ at e;split at e
    ·split at e
     ·exact ⟨_,e⟩
     ·cases e
    all_goals exact P7 e
   ·cases e
  ·cases e
 case eqv neg q x y=>
  unfold oEq at e;obtain ⟨r,hr⟩:=zH e;split at hr<;>exact P7 hr
 case mk z ps=>unfold oMk at e;obtain ⟨r,hr⟩:=cT e;exact ⟨_,hr⟩
 case not x=>unfold fX at e;split at e<;>first|exact P7 e|cases e
 case neg x=>unfold sZ at e;split at e<;>first|exact H9 e|cases e
 case idx x i sz=>unfold Jq at e;(repeat' split at e)<;>first|exact Qf e|exact MV e|cases e
 case idxA x i sz n=>unfold IZ at e;(repeat' split at e)<;>first|exact Qf e|exact MV e|cases e
 case nilchk x=>unfold DW at e;split at e<;>first|exact ⟨_,e⟩|cases e
 case ext x i=>unfold bu at e;split at e<;>first|exact MN e|cases e
 case mkf f a b=>exact ⟨_,e⟩
 case mapget q m i z ok=>
  unfold DX at e;split at e
  ·exact ⟨_,e⟩
  ·split at e
   ·obtain ⟨v,b,hv⟩:=bS e;exact ⟨_,hv⟩
   ·cases e
  ·cases e
 case slice x lo hi mx sz=>
  unfold BT di AaG um at e;simp only[AF] at e
  (repeat' split at e)<;>first|(cases e;done)|exact ⟨_,e⟩|skip
  all_goals (obtain ⟨n,e⟩:=IC e)
  all_goals ((repeat' split at e)<;>first|(cases e;done)|skip)
  all_goals (obtain ⟨l,e⟩:=IC e)
  all_goals ((repeat' split at e)<;>first|(cases e;done)|exact ⟨_,e⟩|skip)
  all_goals (obtain ⟨q,e⟩:=IC e)
  all_goals ((repeat' split at e)<;>first|(cases e;done)|exact ⟨_,e⟩)
 case sliceA x lo hi mx sz n=>
  unfold EC di at e;simp only[AF] at e
  (repeat' split at e)<;>first|(cases e;done)|skip
  all_goals (obtain ⟨n,e⟩:=IC e)
  all_goals (obtain ⟨l,e⟩:=IC e)
  all_goals ((repeat' split at e)<;>first|(cases e;done)|exact ⟨_,e⟩)
 case sliceS x lo hi=>
  unfold DV at e;split at e
  ·rw[AF] at e;obtain ⟨n,e⟩:=IC e;obtain ⟨l,e⟩:=IC e;exact ⟨_,e⟩
  ·cases e
 case idxS x i=>
  unfold HZ at e
  (repeat' split at e)<;>first|(obtain ⟨u,hu⟩:=MN e;exact ⟨_,hu⟩)|cases e
 case idxG x i sz n agg=>unfold IY at e;(repeat' split at e)<;>first|exact Pu e|cases e
 case conv k x=>unfold Ko at e;split at e<;>first|exact H9 e|cases e
 case fld x off n agg=>unfold gg at e;split at e<;>first|exact Pu e|cases e
 case mkif ty x=>exact ⟨_,e⟩
 case len q x=>
  unfold GX at e
  (repeat' split at e)<;>first|(rw[AF] at e;exact ⟨_,e⟩)|exact ⟨_,e⟩|cases e
 case cap x=>unfold gp at e;(repeat' split at e)<;>first|exact ⟨_,e⟩|cases e
 case mxn mx x l=>exact zd e
 case cmpStr x y=>unfold DA at e;(repeat' split at e)<;>first|exact ⟨_,e⟩|cases e
end
end Go.AJ
namespace Go.AJ
open Go
variable [BN]
theorem Tw (acc:List Nat) (q:Nat):∀(l:List Nat) (m:Nat),(l.foldl (fun m p=>Nat.lor (Nat.lor m (Nat.pow 2 p)) (acc.getD p 0)) m).testBit q=(m.testBit q||l.any fun p=>p==q||(acc.getD p 0).testBit q):=by
 intro l;induction l with
 |nil=>intro m;simp
 |cons p l ih=>
  intro m;rw[List.foldl_cons,ih];have e:(Nat.lor (Nat.lor m (Nat.pow 2 p)) (acc.getD p 0)).testBit q=(m.testBit q||(p==q)||(acc.getD p 0).testBit q):=by show ((m|||2 ^ p)|||acc.getD p 0).testBit q=_;rw[Nat.testBit_or,Nat.testBit_or,Nat.testBit_two_pow];congr 2
  rw[e,List.any_cons];simp only[Bool.or_assoc]
theorem HF:∀(l:List Oper) (i:Nat) (acc anc:List Nat),O8 l i acc=some anc→acc.length=i→(anc.take i=acc)∧anc.length=i+l.length∧
  (∀j o,l[j]? =some o→(∀p∈Cp o,p<i+j)∧∀q,(anc.getD (i+j) 0).testBit q=(Cp o).any fun p=>p==q||(anc.getD p 0).testBit q):=by
 intro l;induction l with
 |nil=>intro i acc anc h hl;simp only[O8,Option.some.injEq] at h;subst h;exact ⟨by rw[←hl];simp,by simp [hl],by simp⟩
 |cons o l ih=>
  intro i acc anc h hl;simp only[O8] at h;split at h
  ·rename_i hp;have hp:=Dw.1 hp;obtain ⟨h1,h2,h3⟩:=ih (i+1) _ anc h (by simp [hl]);have hacc:anc.take i=acc:=by
    have e1:(anc.take (i+1)).take i=acc:=by rw[h1,List.take_append_of_le_length tO];exact List.take_of_length_le tO
    rw[List.take_take,Nat.min_eq_left tO] at e1;exact e1
   refine ⟨hacc,by simp only[List.length_cons];omega,fun j o' hj=>?_⟩;cases j with
   |zero=>
    simp at hj;subst hj;have hlt:∀p∈Cp o,p<i:=fun p hpm=>Nat.blt_eq▸hp p hpm;refine ⟨by simpa using hlt,fun q=>?_⟩;have hget:anc.getD (i+0) 0=(Cp o).foldl (fun m p=>Nat.lor (Nat.lor m (Nat.pow 2 p)) (acc.getD p 0)) 0:=by
     have:anc[i]? =(anc.take (i+1))[i]? :=by rw[List.getElem?_take_of_lt tO]
     rw[Nat.add_zero,List.getD_eq_getElem?_getD,this,h1];simp [←hl]
    rw[hget,Tw];simp only[Nat.zero_testBit,Bool.false_or];rw[Bool.eq_iff_iff,List.any_eq_true,List.any_eq_true];have hg:∀p∈Cp o,acc.getD p 0=anc.getD p 0:=fun p hpm=>by rw[←hacc,List.getD_eq_getElem?_getD,List.getElem?_take_of_lt (hlt p hpm),List.getD_eq_getElem?_getD]
    constructor
    ·rintro ⟨p,hpm,hq⟩;exact ⟨p,hpm,by rw[←hg p hpm];exact hq⟩
    ·rintro ⟨p,hpm,hq⟩;exact ⟨p,hpm,by rw[hg p hpm];exact hq⟩
   |succ j=>have:=h3 j o' (by simpa using hj);rw[show i+(j+1)=i+1+j by omega];exact this
  ·cases h
theorem Aau {ops:List Oper} {anc:List Nat} (ha:O8 ops 0 []=some anc) {S:Nat→Prop} (hS:∀i o,S i→ops[i]? =some o→∀p∈Cp o,S p) (hn:∀i,S i→i<ops.length):
  ∀(i:Nat) (o:Oper),ops[i]? =some o→(∀p∈Cp o,S p)→∀q,(anc.getD i 0).testBit q=true→S q:=by
 intro i;induction i using Nat.strongRecOn with
 |ind i ih=>
  intro o ho hp q hq;obtain ⟨_,_,h3⟩:=HF ops 0 [] anc ha rfl;obtain ⟨hlt,hall⟩:=h3 i o ho;have:=hall q;rw[Nat.zero_add] at this;rw[this,List.any_eq_true] at hq;obtain ⟨p,hpm,hq⟩:=hq;rw[Bool.or_eq_true] at hq;rcases hq with hq|hq
  ·have:p=q:=by simpa using hq
   subst this;exact hp p hpm
  ·have hSp:=hp p hpm;have hpl:=hn p hSp;have hop:ops[p]? =some ops[p]:=List.getElem?_eq_getElem hpl;exact ih p (by have:=hlt p hpm;omega) ops[p] hop (hS p _ hSp hop) q hq
end Go.AJ
namespace Go.AJ
open Go
variable [BN]
theorem M3:∀{l:List (Option Tmp)},Dm l=true→∀(i j:Nat) (d:Tmp),l[i]? =some (some d)→l[j]? =some (some d)→i=j:=by
 intro l;induction l with
 |nil=>intro _ i j d h;simp at h
 |cons x l ih=>
  intro h i j d hi hj;have key:∀(y:Option Tmp),x=y→∀d,y=some d→∀j:Nat,l[j]? =some (some d)→False:=by intro y hy d hyd j hj2;clear hi hj;subst hy hyd;simp only[Dm,Bool.and_eq_true] at h;have:=Dw.1 h.1 (some d) (List.mem_of_getElem? hj2);simp at this
  have hl:Dm l=true:=by
   cases x with
   |none=>exact h
   |some d=>simp only[Dm,Bool.and_eq_true] at h;exact h.2
  cases i with
  |zero=>
   cases j with
   |zero=>rfl
   |succ j=>exact (key x rfl d (by simpa using hi) j (by simpa using hj)).elim
  |succ i=>
   cases j with
   |zero=>exact (key x rfl d (by simpa using hj) i (by simpa using hi)).elim
   |succ j=>rw[ih hl i j d (by simpa using hi) (by simpa using hj)]
theorem jn {p:Co}:∀{l:List Nat},chain p l=true→∀(m x y:Nat),l[m]? =some x→l[m+1]? =some y→p.has y x=true:=by
 intro l;induction l with
 |nil=>intro _ m x y h;simp at h
 |cons a l ih=>
  intro h m x y hx hy;cases l with
  |nil=>simp at hy
  |cons b l=>
   simp only[chain,Bool.and_eq_true] at h;cases m with
   |zero=>simp at hx hy;subst hx hy;exact h.1
   |succ m=>exact ih h.2 m x y (by simpa using hx) (by simpa using hy)
theorem AbZ {p:Co} {i:Nat}:∀(l:List Nat) (k:Nat),0<k→Co.lo.go p i l k≠0→∃m x,Co.lo.go p i l k=k+m∧l[m]? =some x∧p.has i x=true:=by
 intro l;induction l with
 |nil=>intro k _ h;exact absurd rfl h
 |cons a l ih=>
  intro k hk h;simp only[Co.lo.go] at h⊢;split
  ·rename_i hr;obtain ⟨m,x,h1,h2,h3⟩:=ih (k+1) tO hr;exact ⟨m+1,x,by rw[h1];omega,by simpa using h2,h3⟩
  ·rename_i hr;rw[if_neg hr] at h;split
   ·rename_i ha;exact ⟨0,a,rfl,rfl,ha⟩
   ·rename_i ha;rw[if_neg ha] at h;exact absurd rfl h
theorem zm {p:Co} {i:Nat} (h:p.lo i≠0):∃x,p.heavy[p.lo i-1]? =some x∧p.has i x=true:=by obtain ⟨m,x,h1,h2,h3⟩:=AbZ p.heavy 1 tO h;have:p.lo i=1+m:=h1;exact ⟨x,by rw[this,Nat.add_sub_cancel_left];exact h2,h3⟩
theorem Acd {p:Co} {i:Nat}:∀(l:List Nat) (k:Nat),(∃m x,Co.hi.go p i l k=k+m∧l[m]? =some x∧p.has x i=true)∨Co.hi.go p i l k=k+l.length:=by
 intro l;induction l with
 |nil=>intro k;exact .inr rfl
 |cons a l ih=>
  intro k;simp only[Co.hi.go];split
  ·rename_i ha;exact .inl ⟨0,a,rfl,rfl,ha⟩
  ·rcases ih (k+1) with ⟨m,x,h1,h2,h3⟩|h1
   ·exact .inl ⟨m+1,x,by rw[h1];omega,by simpa using h2,h3⟩
   ·exact .inr (by rw[h1,List.length_cons];omega)
theorem Acc {p:Co} {i:Nat}:(∃x,p.heavy[p.hi i]? =some x∧p.has x i=true)∨p.hi i=p.heavy.length:=by
 rcases Acd (p:=p) (i:=i) p.heavy 0 with ⟨m,x,h1,h2,h3⟩|h1
 ·have:p.hi i=0+m:=h1;exact .inl ⟨x,by rw[this,Nat.zero_add];exact h2,h3⟩
 ·exact .inr (by have:p.hi i=0+p.heavy.length:=h1;omega)
structure DN (ex:Nat→List Nat) (ops:Array Oper) (aos:List AO) (p:Co):Prop where
 ancin:∀S:Nat→Prop,(∀(i:Nat) (o:Oper),S i→ops[i]? =some o→∀q∈Cp o++ex i,S q)→(∀i,S i→i<ops.size)→∀(i:Nat) (o:Oper),ops[i]? =some o→(∀q∈Cp o++ex i,S q)→∀q,p.has i q=true→S q
 cls:∀i,p.cls.getD i .heavy=match aos[i]? with|some a=>Cn a.op|none=> .heavy
 heavy:∀i,i∈p.heavy↔i<ops.size∧p.cls.getD i .heavy=.heavy
 nodup:p.heavy.Nodup
 chain:∀(m x y:Nat),p.heavy[m]? =some x→p.heavy[m+1]? =some y→p.has y x=true
 dst:∀(i j:Nat) (o o':Oper) (d:Tmp),ops[i]? =some o→ops[j]? =some o'→o.dst=some d→o'.dst=some d→i=j
 reads:∀(i q:Nat) (o o':Oper) (d:Tmp),ops[i]? =some o→ops[q]? =some o'→o'.dst=some d→d∈S4 ops o→p.has i q=true∨(p.has q i=true∧p.light i=true∧(p.light q=false∨p.hi i<p.lo q))
 dsts:∀(i:Nat) (a:AO),aos[i]? =some a→Cn a.op≠.heavy→a.dst.isSome=true
structure eI (ops:Array Oper) (aos:List AO) (p:Co):Prop where
 anc:O8 ops.toList 0 []=some p.anc
 cls:∀i,p.cls.getD i .heavy=match aos[i]? with|some a=>Cn a.op|none=> .heavy
 heavy:∀i,i∈p.heavy↔i<ops.size∧p.cls.getD i .heavy=.heavy
 nodup:p.heavy.Nodup
 cmap:p.cls=aos.map (Cn ·.op)
theorem Pr {ops:Array Oper} {aos:List AO} {p:Co} (h:fH ops aos=some p):eI ops aos p:=by
 unfold fH at h;split at h
 ·cases h
 ·rename_i anc hanc;simp only[Option.some.injEq] at h;subst h;refine ⟨hanc,fun i=>?_,fun i=>?_,?_,rfl⟩
  ·simp only[List.getD_eq_getElem?_getD,List.getElem?_map];cases aos[i]? <;>rfl
  ·simp
  ·exact List.Pairwise.filter _ List.nodup_range
theorem Jk {ex:Nat→List Nat} {ops:Array Oper} {aos:List AO} {p:Co} (hanc:∀S:Nat→Prop,(∀(i:Nat) (o:Oper),S i→ops[i]? =some o→∀q∈Cp o++ex i,S q)→(∀i,S i→i<ops.size)→∀(i:Nat) (o:Oper),ops[i]? =some o→(∀q∈Cp o++ex i,S q)→∀q,p.has i q=true→S q)
  (hcls:∀i,p.cls.getD i .heavy=match aos[i]? with|some a=>Cn a.op|none=> .heavy) (hheavy:∀i,i∈p.heavy↔i<ops.size∧p.cls.getD i .heavy=.heavy) (hnodup:p.heavy.Nodup) (hcm:p.cls=aos.map (Cn ·.op))
  (hc:Gy ops aos p=true):DN ex ops aos p:=by
 simp only[Gy,Bool.and_eq_true] at hc;obtain ⟨⟨⟨hch,hdis⟩,hrd⟩,hds⟩:=hc;refine ⟨hanc,hcls,hheavy,hnodup,jn hch,?_,?_,?_⟩
 ·intro i j o o' d hi hj hd hd';refine M3 hdis i j d ?_ ?_
  ·simp [hi,hd]
  ·simp [hj,hd']
 ·intro i q o o' d hi hq hd hl;have hi':i<ops.size:=(Array.getElem?_eq_some_iff.1 hi).1;have hq':q<ops.size:=(Array.getElem?_eq_some_iff.1 hq).1;have h1:=Dw.1 hrd i (List.mem_range.2 hi');have h2:=Dw.1 h1 q (List.mem_range.2 hq');simp only[hq,Option.bind_some,hd,hi,Bool.or_eq_true,Bool.not_eq_true',List.contains_eq_mem,decide_eq_false_iff_not,Bool.and_eq_true] at h2;rcases h2 with (h2|h2)|⟨⟨h2,h3⟩,h4⟩
  ·exact absurd hl h2
  ·exact .inl h2
  ·refine .inr ⟨h2,h3,?_⟩;rcases h4 with h4|h4
   ·exact .inl h4
   ·exact .inr (Nat.blt_eq▸h4)
 ·intro i a ha hne;have:=Dw.1 hds (Cn a.op,a) (by refine List.mem_of_getElem? (i:=i) ?_;simp [hcm,List.getElem?_zip_eq_some,ha]);cases hcl:Cn a.op with
  |heavy=>exact absurd hcl hne
  |simple=>simpa [hcl] using this
  |alloc=>simpa [hcl] using this
theorem eI.ancin {ops:Array Oper} {aos:List AO} {p:Co} (h:eI ops aos p) (S:Nat→Prop) (hS:∀(i:Nat) (o:Oper),S i→ops[i]? =some o→∀q∈Cp o,S q) (hn:∀i,S i→i<ops.size) (i:Nat) (o:Oper) (ho:ops[i]? =some o) (hp:∀q∈Cp o,S q) (q:Nat) (hq:p.has i q=true):S q:=
 Aau h.anc (S:=S) (fun q o hq ho=>hS q o hq (by simpa using ho)) (fun q hq=>by simpa using hn q hq) i o (by simpa using ho) hp q hq
theorem UP {ops:Array Oper} {aos:List AO} {p:Co} (h:Pq ops aos=some p):eI ops aos p∧DN (fun _=> []) ops aos p:=by
 unfold Pq at h;split at h
 ·cases h
 ·rename_i p0 h0;split at h
  ·rename_i hc;cases h;have hp:=Pr h0;exact ⟨hp,Jk (fun S hS hn i o ho hq q=>hp.ancin S (fun i o hi ho q hq=>hS i o hi ho q (by simpa using hq)) hn i o ho (fun q h=>hq q (by simpa using h)) q) hp.cls hp.heavy hp.nodup hp.cmap hc⟩
  ·cases h
def iJ (x y:Nat):Nat→List Nat:=fun i=>if i=y then [x] else []
theorem Nj {ops:Array Oper} {aos:List AO} {p:Co} (hp:eI ops aos p) {l:List Nat} {x y:Nat} (hx:x<ops.size) (hy:y<ops.size) (hperm:∀i,i∈l++ [x,y]↔i∈p.heavy) (hnd:(l++ [x,y]).Nodup)
  (hc:Gy ops aos (p.behind l x y)=true):DN (iJ x y) ops aos (p.behind l x y):=by
 have hlen:p.anc.length=ops.size:=by obtain ⟨_,h2,_⟩:=HF ops.toList 0 [] p.anc hp.anc rfl;simpa using h2
 refine Jk (fun S hS hn i o ho hq q hh=>?_) hp.cls (fun i=>?_) hnd hp.cmap hc
 ·have hS0:∀(i:Nat) (o:Oper),S i→ops[i]? =some o→∀q∈Cp o,S q:=fun i o hi ho q hq=>hS i o hi ho q (List.mem_append_left _ hq);have hq0:∀q∈Cp o,S q:=fun q h=>hq q (List.mem_append_left _ h);by_cases hiy:i=y
  ·subst hiy;have hSx:S x:=hq x (List.mem_append_right _ (by simp [iJ]));have hh:Nat.testBit (Nat.lor (Nat.lor (p.anc.getD i 0) (Nat.pow 2 x)) (p.anc.getD x 0)) q=true:=by
    have:(p.behind l x i).has i q=Nat.testBit (Nat.lor (Nat.lor (p.anc.getD i 0) (Nat.pow 2 x)) (p.anc.getD x 0)) q:=by simp [Co.has,Co.behind,List.getD_eq_getElem?_getD,hlen,hy]
    rw[←this];exact hh
   have e:(Nat.lor (Nat.lor (p.anc.getD i 0) (Nat.pow 2 x)) (p.anc.getD x 0)).testBit q=((p.anc.getD i 0).testBit q||(x==q)||(p.anc.getD x 0).testBit q):=by show ((p.anc.getD i 0|||2 ^ x)|||p.anc.getD x 0).testBit q=_;rw[Nat.testBit_or,Nat.testBit_or,Nat.testBit_two_pow];congr 2
   rw[e,Bool.or_eq_true,Bool.or_eq_true] at hh;rcases hh with (hh|hh)|hh
   ·exact hp.ancin S hS0 hn i o ho hq0 q hh
   ·have:x=q:=by simpa using hh
    subst this;exact hSx
   ·have hox:ops[x]? =some ops[x]:=Array.getElem?_eq_getElem hx;exact hp.ancin S hS0 hn x _ hox (hS0 x _ hSx hox) q hh
  ·have:(p.behind l x y).has i q=p.has i q:=by simp [Co.has,Co.behind,List.getD_eq_getElem?_getD,List.getElem?_set_ne (Ne.symm hiy)]
   rw[this] at hh;exact hp.ancin S hS0 hn i o ho hq0 q hh
 ·show i∈l++ [x,y]↔_;rw[hperm i];exact hp.heavy i
theorem hY:∀{l r:List Nat} {x y:Nat},cd l=some (r,x,y)→l=r++ [x,y]:=by
 intro l;induction l with
 |nil=>intro r x y h;cases h
 |cons a l ih=>
  intro r x y h;cases l with
  |nil=>cases h
  |cons b l=>
   cases l with
   |nil=>simp only[cd,Option.some.injEq,Prod.mk.injEq] at h;obtain ⟨rfl,rfl,rfl⟩:=h;rfl
   |cons c l=>
    simp only[cd] at h ih;split at h
    ·cases h
    ·rename_i q hq;obtain ⟨q1,q2,q3⟩:=q;simp only[Option.some.injEq,Prod.mk.injEq] at h;obtain ⟨rfl,rfl,rfl⟩:=h;rw[ih hq];rfl
end Go.AJ
namespace Go.AJ
open Go
variable [BN]
def Eg:V→Option K
 |.ptr b _=>some b
 |.sl b _ _ _ _=>some b
 |_=>none
theorem ki {C:As} {op:AOp} {dst:Option K} {t:T V} {d:Dc} {h:Hp} {k:KS} {p:KP} (hs:Cn op=.alloc) (e:Bd C op dst t d h k p=true):
  ∃v l,Eg v=some (nxt h)∧kv dst t d k v (h.upd (nxt h) (.cells l)).bump=true:=by
 cases op<;>simp only[Cn,reduceCtorEq] at hs
 case box x=>
  have e:Kq (ev t x) h (kv dst t d k)=true:=e;unfold Kq Ba at e;split at e
  ·simp only[Ar] at e;exact ⟨_,_,rfl,e⟩
  ·cases e
  ·simp only[Ar] at e;exact ⟨_,_,rfl,e⟩
 case alloc z=>
  have e:(Bw h (.cells z) fun b h'=>kv dst t d k (.ptr b 0) h')=true:=e;rw[Ar] at e;exact ⟨_,_,rfl,e⟩
 case mkSl z ps len=>
  have e:Gz t z ps len h (kv dst t d k)=true:=e;unfold Gz at e;obtain ⟨r,hr⟩:=cT e;rw[Ar] at hr;exact ⟨_,_,rfl,hr⟩
 case mkslice l c z b=>
  have e:Bf (ev t l) (ev t c) z b h (kv dst t d k)=true:=e;unfold Bf at e
  (repeat' split at e)<;>first|(rw[Ar] at e;exact ⟨_,_,rfl,e⟩)|cases e
theorem gZ {C:As} {op:AOp} {dst:Option K} {t:T V} {d:Dc} {h:Hp} {k:KS} {p:KP} (hs:Cn op≠.heavy) (e:Bd C op dst t d h k p=true):
  ∃v h',kv dst t d k v h'=true∧((Cn op=.simple∧h'=h)∨(Eg v=some (nxt h)∧∃l,h'=(h.upd (nxt h) (.cells l)).bump)):=by
 cases hc:Cn op with
 |heavy=>exact absurd hc hs
 |simple=>rw[GW C hc] at e;obtain ⟨v,hv⟩:=Uz hc e;exact ⟨v,h,hv,.inl ⟨rfl,rfl⟩⟩
 |alloc=>obtain ⟨v,l,hn,hv⟩:=ki hc e;exact ⟨v,_,hv,.inr ⟨hn,l,rfl⟩⟩
section
variable {P:Program} {X:Cx} {ρ:Ren} {h:Hp} {w:World} {b:Frame} {cf:FrameMode→List Frame} {n:Nat}
theorem HR.ghost (H:HR X ρ h w) (x:Blk):HR X ρ (h.upd (nxt h) x).bump w:=by
 have hne:∀b r,ρ b=some r→b≠nxt h:=fun b r hr e=>by rw[e,H.fresh (Nat.le_refl _)] at hr;cases hr
 refine ⟨fun b r hb hr=>?_,fun b b' r r' hb hb' hr hr' e=>?_,fun b r hr=>?_,fun b hb=>?_,H.bsz,H.bas,fun b r hb hr=>?_⟩
 ·rw[An,Al,if_neg (hne b r hr)] at hb⊢;exact H.live b r hb hr
 ·rw[An,Al,if_neg (hne b r hr)] at hb;rw[An,Al,if_neg (hne b' r' hr')] at hb';exact H.inj b b' r r' hb hb' hr hr' e
 ·rw[Ay,Ap,K.num_succ];have:=H.dom b r hr;omega
 ·rw[Ay,Ap,K.num_succ] at hb;rw[An,Al,if_neg (fun e=>by subst e;omega)];exact H.free b tO
 ·rw[An,Al,if_neg (hne b r hr)] at hb;exact H.bhi b r hb hr
theorem Ext.ghost {ρ0:Ren} {h0:Hp} {w0:World} (E:Ext ρ0 h0 w0 ρ h w) (H:HR X ρ h w) (x:Blk):Ext ρ0 h0 w0 ρ (h.upd (nxt h) x).bump w:=by
 have hne:∀b r,ρ b=some r→b≠nxt h:=fun b r hr e=>by rw[e,H.fresh (Nat.le_refl _)] at hr;cases hr
 refine ⟨E.sub,E.new,?_,fun b hb hlt=>?_,E.size,E.cfr,fun b r hb hr=>?_,E.os,E.tape,E.out⟩
 ·rw[Ay,Ap,K.num_succ];have:=E.nx;omega
 ·have:=E.nx;rw[An,Al,if_neg (fun e=>by subst e;omega)];exact E.afr b hb hlt
 ·rw[An,Al,if_neg (hne b r hr)] at hb;exact E.img b r hb hr
structure DI (X:Cx) (n:Nat) (b:Frame) (cf:FrameMode→List Frame) (ex:Nat→List Nat) (ops:Array Oper) (p:Co) (ρ0:Ren) (h0:Hp) (w0:World) (S G:Nat→Prop) (j:Nat) (ρ:Ren) (h:Hp) (w:World) (t:T V) (a:Act) (d:Dc) (μ:FrameMode):Prop where
 inn:∀i,S i→i<ops.size
 clo:∀(i:Nat) (o:Oper),S i→ops[i]? =some o→∀q∈Cp o++ex i,S q
 hv:∀m x,p.heavy[m]? =some x→(S x↔m<j)
 size:n≤a.tmps.size
 out:∀x,(∀(i:Nat) (o:Oper),ops[i]? =some o→o.dst=some x→¬S i∧¬G i)→VR ρ (T.get und (K.of x) t) (a.tmps.getD x undef)
 done:∀(i:Nat) (o:Oper) x,S i→ops[i]? =some o→o.dst=some x→VR ρ (T.get und (K.of x) t) (a.tmps.getD x undef)
 dc:DcR ρ b cf μ d a.defers
 hr:HR X ρ h w
 ex:Ext ρ0 h0 w0 ρ h w
 gh:∀(i:Nat) (o:Oper) x bn,G i→¬S i→ops[i]? =some o→o.dst=some x→Cn (cAH X.T X.ext n ops o).op=.alloc→Eg (T.get und (K.of x) t)=some bn→
  ρ bn=none∧(nxt h0).num≤bn.num∧bn.num<(nxt h).num
 gd:∀(i i':Nat) (o o':Oper) x x' bn,G i→¬S i→ops[i]? =some o→o.dst=some x→Cn (cAH X.T X.ext n ops o).op=.alloc→Eg (T.get und (K.of x) t)=some bn→
  G i'→¬S i'→ops[i']? =some o'→o'.dst=some x'→Cn (cAH X.T X.ext n ops o').op=.alloc→Eg (T.get und (K.of x') t)=some bn→i=i'
theorem t8 {C:As} (b:Bool) (a:AOp) (dst:Option K) (t:T V) (d:Dc) (h:Hp) (k:KS) (p:KP):Bd C (hvy b a) dst t d h k p=Bd C a dst t d h k p:=by
 cases b
 ·rfl
 ·cases a<;>rfl
theorem Ps {ops:Array Oper} {o:Oper} {dst:Option K} {g:Option (K×Bool)} {op:AOp} (h:cAH X.T X.ext n ops o=⟨dst,g,op⟩) (hb:op≠.bad) (hm:∀x,op≠.mvh x):
  OV n o.dst=some dst∧Ha n ops o.guard=some g∧cOp X.T X.ext o.op=some op:=by
 unfold cAH at h;split at h
 ·rename_i d' g' a' h1 h2 h3;cases h;refine ⟨h1,h2,?_⟩;rw[h3];cases hb:Aax ops o
  ·rfl
  ·rw[hb] at hm;cases a'<;>first|rfl|exact absurd rfl (hm _)
 ·cases h;exact absurd rfl hb
theorem Nf {dst:Option Tmp} {k:K} (h:OV n dst=some (some k)):∃x,dst=some x∧x<n∧k=K.of x:=by
 cases dst with
 |none=>simp [OV] at h
 |some x=>
  simp only[OV] at h;split at h
  ·rename_i hx;simp only[Option.some.injEq] at h;exact ⟨x,rfl,hx,h.symm⟩
  ·cases h
theorem DI.light {ex:Nat→List Nat} {ops:Array Oper} {p:Co} {ρ0:Ren} {h0:Hp} {w0:World} {S G:Nat→Prop} {j:Nat} {t:T V} {a:Act} {d:Dc} {μ:FrameMode} (I:DI X n b cf ex ops p ρ0 h0 w0 S G j ρ h w t a d μ)
  (hdst:∀(i j:Nat) (o o':Oper) (d:Tmp),ops[i]? =some o→ops[j]? =some o'→o.dst=some d→o'.dst=some d→i=j) {i:Nat} {o:Oper} {x:Tmp} (ho:ops[i]? =some o) (hx:o.dst=some x) (hS:¬S i) (hG:¬G i)
  {v:V} {h':Hp} (hh:(Cn (cAH X.T X.ext n ops o).op=.simple∧h'=h)∨(Eg v=some (nxt h)∧∃l,h'=(h.upd (nxt h) (.cells l)).bump)∨(v=und∧h'=h)):
  DI X n b cf ex ops p ρ0 h0 w0 S (fun q=>G q∨q=i) j ρ h' w (T.ins und v (K.of x) t) a d μ:=by
 have keep:∀y,y≠x→T.get und (K.of y) (T.ins und v (K.of x) t)=T.get und (K.of y) t:=fun y hy=>by rw[T.get_ins,if_neg (fun e=>hy (K.of_inj e))]
 have same:T.get und (K.of x) (T.ins und v (K.of x) t)=v:=by rw[T.get_ins,if_pos rfl]
 have other:∀(q:Nat) (o':Oper) y,ops[q]? =some o'→o'.dst=some y→q≠i→y≠x:=fun q o' y hq hy hne e=>by subst e;exact hne (hdst q i o' o y hq ho hy hx)
 have hr':HR X ρ h' w:=by
  rcases hh with ⟨_,rfl⟩|⟨_,l,rfl⟩|⟨_,rfl⟩
  ·exact I.hr
  ·exact I.hr.ghost _
  ·exact I.hr
 have ex':Ext ρ0 h0 w0 ρ h' w:=by
  rcases hh with ⟨_,rfl⟩|⟨_,l,rfl⟩|⟨_,rfl⟩
  ·exact I.ex
  ·exact I.ex.ghost I.hr _
  ·exact I.ex
 have nx':(nxt h).num≤(nxt h').num:=by
  rcases hh with ⟨_,rfl⟩|⟨_,l,rfl⟩|⟨_,rfl⟩
  ·exact Nat.le_refl _
  ·rw[Ay,Ap,K.num_succ];omega
  ·exact Nat.le_refl _
 have new:Cn (cAH X.T X.ext n ops o).op=.alloc→∀bn,Eg v=some bn→bn=nxt h∧(nxt h).num<(nxt h').num:=fun hc bn hbn=>by
  rcases hh with ⟨h1,_⟩|⟨h1,l,rfl⟩|⟨rfl,_⟩
  ·rw[h1] at hc;cases hc
  ·rw[h1] at hbn;cases hbn;refine ⟨rfl,?_⟩;rw[Ay,Ap,K.num_succ];omega
  ·cases hbn
 refine ⟨I.inn,I.clo,I.hv,I.size,fun y hy=>?_,fun q o' y hq ho' hy=>?_,I.dc,hr',ex',?_,?_⟩
 ·rw[keep y (fun e=>(hy i o ho (by rw[e];exact hx)).2 (.inr rfl))];exact I.out y fun q o' ho' hd=>⟨(hy q o' ho' hd).1,fun hG=>(hy q o' ho' hd).2 (.inl hG)⟩
 ·rw[keep y (other q o' y ho' hy (fun e=>hS (e▸hq)))];exact I.done q o' y hq ho' hy
 ·intro q o' y bn hq hSq ho' hy hc hbn;by_cases hqi:q=i
  ·subst hqi;rw[ho] at ho';cases ho';rw[hx] at hy;cases hy;rw[same] at hbn;obtain ⟨rfl,hlt⟩:=new hc _ hbn;exact ⟨I.hr.fresh (Nat.le_refl _),I.ex.nx,hlt⟩
  ·have hq:G q:=hq.resolve_right hqi;rw[keep y (other q o' y ho' hy hqi)] at hbn;obtain ⟨g1,g2,g3⟩:=I.gh q o' y bn hq hSq ho' hy hc hbn;exact ⟨g1,g2,Nat.lt_of_lt_of_le g3 nx'⟩
 ·intro q q' o1 o2 y y' bn hq hSq ho1 hy hc hbn hq' hSq' ho2 hy' hc' hbn';have old:∀(q:Nat) (o1:Oper) y,G q∨q=i→¬S q→ops[q]? =some o1→o1.dst=some y→Cn (cAH X.T X.ext n ops o1).op=.alloc→Eg (T.get und (K.of y) (T.ins und v (K.of x) t))=some bn→
    (q=i∧bn=nxt h)∨(G q∧Eg (T.get und (K.of y) t)=some bn∧bn.num<(nxt h).num):=by
   intro q o1 y hq hSq ho1 hy hc hbn;by_cases hqi:q=i
   ·subst hqi;rw[ho] at ho1;cases ho1;rw[hx] at hy;cases hy;rw[same] at hbn;exact .inl ⟨rfl,(new hc _ hbn).1⟩
   ·have hq:G q:=hq.resolve_right hqi;rw[keep y (other q o1 y ho1 hy hqi)] at hbn;exact .inr ⟨hq,hbn,(I.gh q o1 y bn hq hSq ho1 hy hc hbn).2.2⟩
  rcases old q o1 y hq hSq ho1 hy hc hbn with ⟨e1,e2⟩|⟨g1,g2,g3⟩<;>rcases old q' o2 y' hq' hSq' ho2 hy' hc' hbn' with ⟨f1,f2⟩|⟨k1,k2,k3⟩
  ·rw[e1,f1]
  ·rw[e2] at k3;omega
  ·rw[f2] at g3;omega
  ·exact I.gd q q' o1 o2 y y' bn g1 hSq ho1 hy hc g2 k1 hSq' ho2 hy' hc' k2
theorem Ui {g:Option (K×Bool)} {t:T V} {yes no:Bool} (e:wanted g t yes no=true):yes=true∨no=true:=by
 unfold wanted at e
 (repeat' split at e)<;>first|exact .inl e|exact .inr e
theorem O6 {ops:Array Oper} {i:Nat} {o:Oper} (ho:ops[i]? =some o):Gk (ops.toList.map (cAH X.T X.ext n ops)) i=cAH X.T X.ext n ops o:=by unfold Gk;rw[List.getD_eq_getElem?_getD,List.getElem?_map,Array.getElem?_toList,ho];rfl
theorem My {C:As} {ex:Nat→List Nat} {ops:Array Oper} {p:Co} (hp:DN ex ops (ops.toList.map (cAH X.T X.ext n ops)) p) {ρ0:Ren} {h0:Hp} {w0:World} {S:Nat→Prop} {j:Nat} {a:Act} {d:Dc} {μ:FrameMode} {k:KS}:
  ∀(L:List Nat) (G:Nat→Prop) (t:T V) (h:Hp),(∀i∈L,i<ops.size∧p.cls.getD i .heavy≠.heavy∧¬S i∧¬G i)→L.Nodup→DI X n b cf ex ops p ρ0 h0 w0 S G j ρ h w t a d μ→
   Bv C (L.map (Gk (ops.toList.map (cAH X.T X.ext n ops)))) t d h k (fun _ _ _ _=>false)=true→
   ∃t' h',k t' d h'=true∧DI X n b cf ex ops p ρ0 h0 w0 S (fun q=>G q∨q∈L) j ρ h' w t' a d μ:=by
 intro L;induction L with
 |nil=>intro G t h _ _ I e;exact ⟨t,h,e,by simpa using I⟩
 |cons i L ih=>
  intro G t h hL hnd I e;obtain ⟨hi,hc,hS,hG⟩:=hL i (.head _);obtain ⟨o,ho⟩:∃o,ops[i]? =some o:=⟨ops[i],Array.getElem?_eq_getElem hi⟩
  rw[List.map_cons,O6 ho] at e;have hcls:=hp.cls i;rw[List.getElem?_map,Array.getElem?_toList,ho] at hcls;simp only[Option.map_some] at hcls;rw[hcls] at hc;have hdst:=hp.dsts i (cAH X.T X.ext n ops o) (by rw[List.getElem?_map,Array.getElem?_toList,ho];rfl) hc;obtain ⟨dst,hdd⟩:=Option.isSome_iff_exists.1 hdst;generalize hao:cAH X.T X.ext n ops o=ao at e hc hdd;obtain ⟨dst',g,op⟩:=ao;simp only at hdd;subst hdd;obtain ⟨h1,h2,h3⟩:=Ps hao (fun e=>by subst e;exact hc rfl) (fun x e=>by subst e;exact hc rfl);obtain ⟨x,hx,hxn,rfl⟩:=Nf h1;have e:wanted g t (Bd C op (some (K.of x)) t d h (fun t' d' h'=>Bv C (L.map (Gk (ops.toList.map (cAH X.T X.ext n ops)))) t' d' h' k (fun _ _ _ _=>false)) (fun _ _ _ _=>false))
    (put (some (K.of x)) und t fun t'=>Bv C (L.map (Gk (ops.toList.map (cAH X.T X.ext n ops)))) t' d h k (fun _ _ _ _=>false))=true:=e
  have hnd':=List.nodup_cons.1 hnd;have next:∀(v:V) (h':Hp),((Cn (cAH X.T X.ext n ops o).op=.simple∧h'=h)∨(Eg v=some (nxt h)∧∃l,h'=(h.upd (nxt h) (.cells l)).bump)∨(v=und∧h'=h))→
    (put (some (K.of x)) v t fun t'=>Bv C (L.map (Gk (ops.toList.map (cAH X.T X.ext n ops)))) t' d h' k (fun _ _ _ _=>false))=true→
    ∃t' h',k t' d h'=true∧DI X n b cf ex ops p ρ0 h0 w0 S (fun q=>G q∨q∈i::L) j ρ h' w t' a d μ:=by
   intro v h' hh e;simp only[put,T.set_eq] at e;have I':=I.light hp.dst ho hx hS hG hh;have hL':∀q∈L,q<ops.size∧p.cls.getD q .heavy≠.heavy∧¬S q∧¬(G q∨q=i):=fun q hq=>by
    obtain ⟨g1,g2,g3,g4⟩:=hL q (.tail _ hq);refine ⟨g1,g2,g3,?_⟩;rintro (hg|hqi)
    ·exact g4 hg
    ·exact hnd'.1 (hqi▸hq)
   obtain ⟨t2,h2,hk,I2⟩:=ih (fun q=>G q∨q=i) _ h' hL' hnd'.2 I' e;refine ⟨t2,h2,hk,?_⟩;have:(fun q=>(G q∨q=i)∨q∈L)=fun q=>G q∨q∈i::L:=by funext q;rw[List.mem_cons,or_assoc]
   rw[this] at I2;exact I2
  rcases Ui e with e|e
  ·obtain ⟨v,h',hv,hh⟩:=gZ hc e;refine next v h' ?_ hv;rcases hh with ⟨q1,q2⟩|q
   ·exact .inl ⟨by rw[hao];exact q1,q2⟩
   ·exact .inr (.inl q)
  ·exact next und h (.inr (.inr ⟨rfl,rfl⟩)) e
end
end Go.AJ
