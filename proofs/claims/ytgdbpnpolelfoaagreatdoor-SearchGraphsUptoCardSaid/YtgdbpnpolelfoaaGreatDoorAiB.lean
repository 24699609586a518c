/- The interpreter: operations that write. Nothing is asked of the program. -/
import Derived.Test.YtgdbpnpolelfoaaGreatDoorAiA
import Derived.Great.BuildSlice
import Derived.Laws.MakeOwn
import Derived.Laws.CopyRow
import Derived.Laws.AppendOwn
import Derived.Laws.IdiomStrings
import Derived.Laws.BytesString
import Derived.Maps.RangeRun
import Derived.Laws.RangeString
set_option linter.all false
namespace Go.AJ
open Go
variable [BN]
section
variable {P:Program} {X:Cx} {ρ:Ren} {h:Hp} {w:World}
def Did (X:Cx) (ρ:Ren) (h:Hp) (w:World) (c:KV) (r:Result Value):Prop:=
 ∃z z' ρ' h' w',c z h'=true∧r=.ok z' w'∧VR ρ' z z'∧HR X ρ' h' w'∧Ext ρ h w ρ' h' w'
theorem HR.newCells (H:HR X ρ h w) {l:List V} {cs:Array Value} (hl:VL ρ l cs.toList) (ho:∀v∈l,v.one=true) (el sz:Nat):
  HR X (ρ.add (nxt h) ⟨w.heap.size,0,0,sz,l.length⟩) (h.upd (nxt h) (.cells l)).bump (w.alloc (.cells cs el))∧
  Ext ρ h w (ρ.add (nxt h) ⟨w.heap.size,0,0,sz,l.length⟩) (h.upd (nxt h) (.cells l)).bump (w.alloc (.cells cs el)):=by
 have hn:ρ (nxt h)=none:=H.fresh (Nat.le_refl _);refine H.newName (.cells l) ⟨w.heap.size,0,0,sz,l.length⟩ (.cells cs el) _ rfl rfl ⟨cs,el,(0,0),rfl,rfl,?_,?_,?_,ho⟩
 ·have:=hl.length;simp only[Array.length_toList] at this;simp [this]
 ·intro i _;simp
 ·have:=hl.length;simp only[List.drop_zero];rw[List.take_of_length_le tO];exact hl.mono (Ren.add_sub hn)
theorem th {v:V} {v':Value} {c:KV} (H:HR X ρ h w) (hv:VR ρ v v') (el:Nat) (e:Kq v h c=true):Did X ρ h w c ((Instr.box el v').run P w):=by obtain ⟨l,e,hl,ho⟩:=Gd e hv;rw[Ar] at e;obtain ⟨H',E⟩:=H.newCells hl ho el 0;refine ⟨_,.pointer (some ⟨w.heap.size,0,none⟩),_,_,_,e,?_,.ptr _ 0 ⟨w.heap.size,0,0,0,l.length⟩ (Ren.add_same _ _ _),H',E⟩;simp [Instr.box,newVar,newRow]
theorem bA {z:List V} {z':Value} {i:TypeInfo} {el:Nat} {c:KV} (H:HR X ρ h w) (hi:P.info? el=some i) (hz:i.zero=some z') (hl:VL ρ z z'.cells.toList) (ho:∀v∈z,v.one=true)
  (e:(Bw h (.cells z) fun b h'=>c (.ptr b 0) h')=true):Did X ρ h w c ((Instr.alloc el true (.tuple #[])).run P w):=by
 rw[Ar] at e;obtain ⟨H',E⟩:=H.newCells hl ho el 0;refine ⟨_,.pointer (some ⟨w.heap.size,0,none⟩),_,_,_,e,?_,.ptr _ 0 ⟨w.heap.size,0,0,0,z.length⟩ (Ren.add_same _ _ _),H',E⟩;simp [Instr.alloc,AQ hi hz,newVar,newRow]
theorem Di {z:List V} {z':Array Value} {n:Nat} (hl:VL ρ z z'.toList) (hn:z.length=n) (m:Nat):VL ρ (rep m z) ((Array.range (m*n)).map (z'[·%z'.size]!)).toList:=by
 have hlen:=hl.length;simp only[Array.length_toList] at hlen;have hrep:∀m,(rep m z).length=m*z.length:=by
  intro m;induction m with
  |zero=>simp [rep]
  |succ m ih=>simp [rep,ih,Nat.succ_mul];omega
 have get:∀m i,i<m*z.length→(rep m z)[i]? =z[i%z.length]? :=by
  intro m;induction m with
  |zero=>intro i hi;simp at hi
  |succ m ih=>
   intro i hi;rw[Nat.succ_mul] at hi;rw[rep];by_cases h1:i<z.length
   ·rw[List.getElem?_append_left h1,Nat.mod_eq_of_lt h1]
   ·rw[List.getElem?_append_right tO,ih _ tO,←Nat.mod_eq_sub_mod tO]
 refine VL.of_get ?_ fun i v hv=>?_
 ·rw[Array.length_toList];simp [hrep,hn]
 ·have hi:=(List.getElem?_eq_some_iff.1 hv).1;rw[hrep] at hi;rw[get m i hi] at hv;obtain ⟨v',hv',hr⟩:=hl.get hv;refine ⟨v',?_,hr⟩;rw[Array.getElem?_toList,Array.getElem?_map];have hi2:i<m*n:=by rw[←hn];exact hi
  rw[Array.getElem?_range,if_pos hi2];simp only[Option.map_some,Option.some.injEq];rw[hlen] at hv';rw[Array.getElem?_toList] at hv';rw[getElem!_def,hv']
theorem EA {z:List V} (ho:∀v∈z,v.one=true):∀(m:Nat),∀v∈rep m z,v.one=true:=by
 intro m;induction m with
 |zero=>intro v hv;simp [rep] at hv
 |succ m ih=>
  intro v hv;simp only[rep,List.mem_append] at hv;rcases hv with h|h
  ·exact ho _ h
  ·exact ih _ h
theorem fY {t:T V} {ty el:Nat} {i:TypeInfo} {z':Value} {ps:List (Nat×Nat×AJ.X)} {ps':Array (Nat×Value)} {z:List V} {len:Nat} {c:KV} (H:HR X ρ h w) (hu:P.underlying ty=some (.slice el))
  (hi:P.info? el=some i) (hzz:i.zero=some z') (hp:PR ρ t (fun j=>some (j*i.size,i.size)) ps ps'.toList) (hz:VL ρ z z'.cells.toList) (hn:z.length=i.size) (ho:∀v∈z,v.one=true)
  (hle:len*i.size≤65536) (e:Gz t (rep len z) ps len h c=true):Did X ρ h w c ((Instr.buildSlice ty len ps').run P w):=by
 have hz0:=Di hz hn len;obtain ⟨z1,cs,e,hf,hv,ho1,_⟩:=Ov hp hz0 (EA ho len) e;rw[Ar] at e;obtain ⟨H',E⟩:=H.newCells hv ho1 el 0;refine ⟨_,.slice (some ⟨w.heap.size,0,none⟩) len len,_,_,_,e,?_,.slc _ 0 len len ⟨w.heap.size,0,0,0,z1.length⟩ (Ren.add_same _ _ _),H',E⟩;by_cases hpos:len*i.size=0
 ·have e0:∀f:Nat→Value,(Array.range 0).map f= #[]:=fun f=>by simp [Array.range_zero']
  rw[hpos,e0] at hf;simp [Instr.buildSlice,run_underlying hu,AD hi,hpos,e0,hf,newRow]
 ·exact run_buildSlice w ty el len ps' cs i z' hu hi hzz tO hpos hf
theorem br {ty:Nat} {c:KV} (H:HR X ρ h w) (e:(Bw h (.map [] 0) fun b h'=>c (.map b) h')=true):Did X ρ h w c ((Instr.makeMap ty none).run P w):=by rw[Ar] at e;obtain ⟨H',E⟩:=H.newName (.map [] 0) ⟨w.heap.size,0,0,0,0⟩ (.map #[] 0) _ rfl rfl ⟨#[],rfl,.nil⟩;refine ⟨_,.map (some w.heap.size),_,_,_,e,?_,.map _ ⟨w.heap.size,0,0,0,0⟩ (Ren.add_same _ _ _),H',E⟩;simp [Instr.makeMap]
theorem Fi {cp b:Nat} (h:cp*(b+1)≤1000000000):(b:Int)*(Int.ofNat cp)≤281474976710656∧Int.ofNat cp≤9223372036854775807:=by
 rw[Nat.mul_add,Nat.mul_one] at h;have h1:b*cp≤1000000000:=by rw[Nat.mul_comm];omega
 have h2:((b*cp:Nat):Int)≤1000000000:=tO;rw[Int.natCast_mul] at h2;simp only[Int.ofNat_eq_natCast];exact ⟨by omega,by omega⟩
theorem Ob {ty el:Nat} {i:TypeInfo} {z':Value} {z:List V} {l cp:V} {l' cp':Value} {c:KV} (H:HR X ρ h w) (hu:P.underlying ty=some (.slice el))
  (hi:P.info? el=some i) (hzz:i.zero=some z') (hz:VL ρ z z'.cells.toList) (hn:z.length=i.size) (ho:∀v∈z,v.one=true) (hl:VR ρ l l') (hc:VR ρ cp cp')
  (e:Bf l cp z i.bytes h c=true):Did X ρ h w c ((Instr.makeSlice ty l' cp').run P w):=by
 cases hl with
 |int kl nl=>
  cases hc with
  |int kc nc=>
   cases nl with
   |negSucc m=>simp [Bf] at e
   |ofNat l=>
    cases nc with
    |negSucc m=>simp [Bf] at e
    |ofNat cp=>
     simp only[Bf] at e;split at e
     ·rename_i h1;have h1:=Nat.le_of_ble_eq_true h1;split at e
      ·rename_i h2;have h2:=Nat.le_of_ble_eq_true h2;rw[Ar] at e;have hz0:=Di hz hn cp;obtain ⟨H',E⟩:=H.newCells hz0 (EA ho cp) el 0;refine ⟨_,.slice (some ⟨w.heap.size,0,none⟩) l cp,_,_,_,e,?_,.slc _ 0 l cp ⟨w.heap.size,0,0,0,_⟩ (Ren.add_same _ _ _),H',E⟩;obtain ⟨hb1,hb2⟩:=Fi h2;exact run_make w ty el i z' hu hi hzz kl kc (Int.ofNat l) (Int.ofNat cp) (by simp) (by simpa using h1) hb1 hb2
      ·cases e
     ·cases e
  |_=>simp [Bf] at e
 |_=>simp [Bf] at e
end
end Go.AJ
namespace Go.AJ
open Go
variable [BN]
section
variable {P:Program} {X:Cx} {ρ:Ren} {h:Hp} {w:World}
theorem Jf (w:World) (g:Nat) (old cs:Array Value) (t:TypeId) (fz:Nat×Nat) (hg:w.heap[g]? =some (.cells old t fz)):(w.setRow g cs).heap=w.heap.set! g (.cells cs t fz):=by
 have hlt:=(Array.getElem?_eq_some_iff.1 hg).1;apply Array.ext_getElem?;intro i;rw[Array.set!_eq_setIfInBounds];by_cases hi:i=g
 ·subst hi;rw[setRow_heap w i old cs t fz hg];simp [hlt]
 ·rw[setRow_other w g i cs hi,Array.getElem?_setIfInBounds_ne (Ne.symm hi)]
theorem CH (P:Program) (g o:Nat) (t:TypeId) (fz:Nat×Nat):∀(vs:List Value) (i:Nat) (cur:Array Value) (w:World),w.heap[g]? =some (.cells cur t fz)→(∀i,i<cur.size→¬(fz.1≤i∧i<fz.2))→o+i+vs.length≤cur.size→(∀v∈vs,v.oneCell'=true)→
  (storeCells ⟨g,o,none⟩ vs i).run P w=.ok () (w.setRow g (cur.toList.take (o+i)++vs++cur.toList.drop (o+i+vs.length)).toArray)
 | [],i,cur,w,hg,_,_,_=>by simp only[storeCells,List.append_nil,List.length_nil,Nat.add_zero,List.take_append_drop,Array.toArray_toList];rw[setRow_self w g cur t fz hg];rfl
 |v::rest,i,cur,w,hg,hfz,hl,h1=>by
  have hi:o+i<cur.size:=by simp at hl;omega
  have hadd:(⟨g,o,none⟩:Addr).add i=⟨g,o+i,none⟩:=by unfold Addr.add;split<;>simp_all
  have hcell:w.cell? ⟨g,o+i,none⟩=some cur[o+i]:=by simp [World.cell?,hg,hi]
  have hfro:w.frozen? ⟨g,o+i,none⟩=false:=by obtain ⟨lo,hi'⟩:=fz;have:=hfz (o+i) hi;simp only[World.frozen?,hg,Bool.and_eq_false_iff,decide_eq_false_iff_not];simp only at this;omega
  have hst:(store ((⟨g,o,none⟩:Addr).add i) v).run P w=.ok () (w.setRow g (cur.setIfInBounds (o+i) v)):=by rw[hadd,run_store P w _ v _ (h1 v (by simp)),hcell];simp [hfro,setCell_eq_setRow w g (o+i) cur t fz v hg]
  have ih:=CH P g o t fz rest (i+1) (cur.setIfInBounds (o+i) v) (w.setRow g (cur.setIfInBounds (o+i) v)) (setRow_heap w g cur _ t _ hg) (by simpa using hfz) (by simp at hl⊢;omega) (fun x hx=>h1 x (by simp [hx]));simp only[storeCells,Sem.run_bind,hst,Result.andThen_ok,ih,setRow_setRow];congr 3;have e:=list_seg_step cur.toList (o+i) v rest (by simp at hl⊢;omega);simpa [Array.toList_setIfInBounds,Nat.add_assoc] using e
theorem qu {α:Type} (c vs:List α) (d fill off:Nat) (h1:off+vs.length≤fill) (h2:d+fill≤c.length):
  ((c.take (off+d)++vs++c.drop (off+d+vs.length)).drop d).take fill=((c.drop d).take fill).take off++vs++((c.drop d).take fill).drop (off+vs.length):=by
 apply List.ext_getElem?;intro i;by_cases hi:i<fill
 ·rw[List.getElem?_take_of_lt hi,List.getElem?_drop];by_cases ha:i<off
  ·rw[List.append_assoc,List.getElem?_append_left (by simp;omega),List.append_assoc,List.getElem?_append_left (by simp;omega)];rw[List.getElem?_take_of_lt tO,List.getElem?_take_of_lt ha,List.getElem?_take_of_lt hi,List.getElem?_drop]
  ·by_cases hb:i<off+vs.length
   ·rw[List.append_assoc,List.getElem?_append_right (by simp;omega),List.getElem?_append_left (by simp;omega),List.append_assoc,List.getElem?_append_right (by simp;omega),List.getElem?_append_left (by simp;omega)];simp only[List.length_take,List.length_drop];congr 1;omega
   ·rw[List.getElem?_append_right (by simp;omega),List.getElem?_append_right (by simp;omega),List.getElem?_drop,List.getElem?_drop];simp only[List.length_append,List.length_take,List.length_drop];rw[List.getElem?_take_of_lt tO,List.getElem?_drop];congr 1;omega
 ·rw[List.getElem?_eq_none (by simp;omega),List.getElem?_eq_none (by simp;omega)]
theorem VL.one {l:List V} {l':List Value} (h:VL ρ l l') (ho:∀v∈l,v.one=true):∀v∈l',v.oneCell'=true:=by
 induction l generalizing l' with
 |nil=>cases h;simp
 |cons v l ih=>
  cases h with
  |cons _ v' _ l' h hl=>
   intro x hx;rcases List.mem_cons.1 hx with rfl|hx
   ·rw[←h.one];exact ho _ (.head _)
   ·exact ih hl (fun y hy=>ho y (.tail _ hy)) x hx
theorem HR.lay (H:HR X ρ h w) {b:K} {l:List V} {r:RB} (hb:blk h b=.cells l) (hr:ρ b=some r) {q:List V} {vs:List Value} {off:Nat} (hq:VL ρ q vs) (hqo:∀v∈q,v.one=true)
  (hle:off+q.length≤l.length):
  ∃w',(storeCells ⟨r.blk,off+r.d,none⟩ vs).run P w=.ok () w'∧HR X ρ (h.upd b (.cells (AJ.lay off l q))) w'∧Ext ρ h w ρ (h.upd b (.cells (AJ.lay off l q))) w':=by
 obtain ⟨c,t,fz,hw,hl,hs,hfz,hvl,ho⟩:=H.cells hb hr;have hql:=hq.length;have hrun:=CH P r.blk (off+r.d) t fz vs 0 c w hw hfz tO (hq.one hqo);simp only[Nat.add_zero] at hrun;refine ⟨_,hrun,H.turn (by rw[hb];simp) hr _ _ _ (Jf w r.blk c _ t fz hw) rfl rfl rfl ⟨_,t,fz,rfl,?_,?_,?_,?_,?_⟩⟩
 ·rw[JB hle,hl]
 ·simp only[List.size_toArray,List.length_append,List.length_take,List.length_drop,Array.length_toList];omega
 ·intro i hi;simp only[List.size_toArray,List.length_append,List.length_take,List.length_drop,Array.length_toList] at hi;exact hfz i tO
 ·simp only;rw[qu c.toList vs r.d r.fill off tO (by simp;omega)];unfold AJ.lay;rw[hql];exact ((hvl.take off).append hq).append (hvl.drop _)
 ·exact b7 ho hqo
def DidU (X:Cx) (ρ:Ren) (h:Hp) (w:World) (c:Hp→Bool) (r:Result Unit):Prop:=
 ∃h' w',c h'=true∧r=.ok () w'∧HR X ρ h' w'∧Ext ρ h w ρ h' w'
theorem bh {a x:V} {a' x':Value} {t:Nat} {i:TypeInfo} {c:Hp→Bool} (H:HR X ρ h w) (hi:P.info? t=some i) (ha:VR ρ a a') (hx:VR ρ x x') (e:Bj a x i.size h c=true):
  DidU X ρ h w c ((Instr.storeAt t a' x').run P w):=by
 cases ha with
 |ptr b o r hr=>
  simp only[Bj] at e;split at e
  ·cases e
  ·rename_i n hn;obtain ⟨q,e,hq,hqo⟩:=Gd e hx;obtain ⟨hlen,e⟩:=F1 _ _ _ e;obtain ⟨l,hb,e⟩:=BQ e;obtain ⟨hle,e⟩:=Ev _ _ _ _ e;rw[AK] at e;obtain ⟨w',hrun,H',E⟩:=H.lay (P:=P) hb hr hq hqo hle;refine ⟨_,w',e,?_,H',E⟩;have hsz:x'.cells.size=i.size:=by have:=hq.length;simp only[Array.length_toList] at this;omega
   simp [Instr.storeAt,Instr.sureAddr,storeVar,AD hi,hsz,hrun]
 |_=>simp [Bj] at e
end
end Go.AJ
namespace Go.AJ
open Go
variable [BN]
section
variable {P:Program} {X:Cx} {ρ:Ren} {h:Hp} {w:World}
theorem bO {q:CK} {D:TypeDesc} (hq:Hh D=some q) {k x:V} {k' x':Value} {clock:Nat} {c:List ME→Nat→Bool} (hk:VR ρ k k') (hx:VR ρ x x'):
  ∀{es:List ME} {es':List MapEntry} (i:Nat),MR ρ es es'→Jt q k x clock es c=true→
  ∃r,Instr.findNow D k' es' i=some r∧(match r with
   |none=>∃es1,c es1 (clock+1)=true∧MR ρ es1 (es'++ [⟨k',x',clock⟩])
   |some p=>∃es1 e0,i≤p.1∧es'[p.1-i]? =some e0∧Instr.sameBits 10000 e0.key k'=true∧c es1 clock=true∧MR ρ es1 (es'.modify (p.1-i) fun e=>{e with key:=k',val:=x'})):=by
 intro es;induction es generalizing c with
 |nil=>intro es' i hm e;cases hm;exact ⟨none,rfl,_,e,.cons _ _ _ _ _ _ _ hk hx .nil⟩
 |cons y es ih=>
  intro es' i hm e;cases hm with
  |cons ek ev ek' ev' b l l' hek hev hl=>
   simp only[Jt] at e;obtain ⟨r,hc,hs,hbits⟩:=JE hq hk hek e;cases r with
   |true=>
    refine ⟨some (i,ev'),by simp [Instr.findNow,hs],_,⟨ek',ev',b⟩,Nat.le_refl _,by simp,?_,hc,?_⟩
    ·exact hbits rfl
    ·simp;exact .cons _ _ _ _ _ _ _ hk hx hl
   |false=>
    obtain ⟨r,hr,rest⟩:=ih (i+1) hl hc;refine ⟨r,by simp [Instr.findNow,hs,hr],?_⟩;cases r with
    |none=>obtain ⟨es1,hc1,hm1⟩:=rest;exact ⟨_,hc1,.cons _ _ _ _ _ _ _ hek hev hm1⟩
    |some p=>
     obtain ⟨es1,e0,hle,hget,hb2,hc1,hm1⟩:=rest;refine ⟨_,e0,by omega,?_,hb2,hc1,?_⟩
     ·rw[show p.1-i=(p.1-(i+1))+1 by omega];simpa using hget
     ·rw[show p.1-i=(p.1-(i+1))+1 by omega];simp only[List.modify_succ_cons];exact .cons _ _ _ _ _ _ _ hek hev hm1
theorem Gu {r:Nat} {es:Array MapEntry} {clock:Nat} (hb:w.heap[r]? =some (.map es clock)) (o:Obj):
  ∃w',(setObj r o).run P w=.ok () w'∧w'.heap=w.heap.set! r o∧w'.os=w.os∧w'.tape=w.tape∧w'.output=w.output:=
 ⟨{w with heap:=w.heap.setIfInBounds r o},by simp [setObj,Sem.run,hb],by rw[Array.set!_eq_setIfInBounds],rfl,rfl,rfl⟩
theorem Jp {q:CK} {ty kt el:Nat} {D:TypeDesc} {m k x:V} {m' k' x':Value} {c:Hp→Bool} (H:HR X ρ h w) (hu:P.underlying ty=some (.map kt el)) (huk:P.underlying kt=some D)
  (hq:Hh D=some q) (hm:VR ρ m m') (hk:VR ρ k k') (hx:VR ρ x x') (e:Fx q m k x h c=true):DidU X ρ h w c ((Instr.mapUpdate ty m' k' x').run P w):=by
 cases hm with
 |map b r hr=>
  simp only[Fx] at e;split at e
  ·rename_i es clock hb;have hbn:blk h b≠.none:=by rw[hb];simp
   obtain ⟨o,ho,hbr⟩:=H.live b r hbn hr;rw[hb] at hbr;obtain ⟨es',rfl,hmr⟩:=hbr;obtain ⟨res,hf,hres⟩:=bO hq hk hx 0 hmr e;have hg:(getObj r.blk).run P w=.ok (.map es' clock) w:=by simp [getObj,Sem.run,ho]
   have hfk:=HO (P:=P) huk hf w;have hck:=fun w=>Dt (P:=P) (em:=false) (n:=9999) huk hq k' w;cases res with
   |none=>obtain ⟨es1,hc1,hm1⟩:=hres;rw[AK] at hc1;obtain ⟨w',hw',h1,h2,h3,h4⟩:=Gu (P:=P) ho (.map (es'.push ⟨k',x',clock⟩) (clock+1));obtain ⟨H',E⟩:=H.turn hbn hr (.map es1 (clock+1)) _ w' h1 h2 h3 h4 ⟨_,rfl,by simpa using hm1⟩;refine ⟨_,w',hc1,?_,H',E⟩;simp [Instr.mapUpdate,run_underlying hu,hck,hg,hfk,hw']
   |some p=>
    obtain ⟨es1,e0,hle,hget,hbits,hc1,hm1⟩:=hres;rw[AK] at hc1;simp only[Nat.sub_zero] at hget hm1;obtain ⟨w',hw',h1,h2,h3,h4⟩:=Gu (P:=P) ho (.map (es'.modify p.1 fun e=>{e with key:=k',val:=x'}) clock);obtain ⟨H',E⟩:=H.turn hbn hr (.map es1 clock) _ w' h1 h2 h3 h4 ⟨_,rfl,by simpa using hm1⟩;refine ⟨_,w',hc1,?_,H',E⟩;have hg0:es'[p.1]? =some e0:=by simpa using hget
    have hk2:(Instr.keyThatStays e0.key k').run P w=.ok k' w:=by simp only[Instr.keyThatStays,hbits,if_true,Sem.run_pure]
    simp only[Instr.mapUpdate,Sem.run_bind,run_underlying hu,Result.andThen_ok,hg,hck,hfk,hg0,Option.map_some,Option.getD_some,hk2,hw']
  ·cases e
 |_=>simp [Fx] at e
theorem Addr.add_none (b o n:Nat):(⟨b,o,none⟩:Addr).add n=⟨b,o+n,none⟩:=Addr.add_lit b o n
theorem KU {b:K} {r:RB} {off sz l hi m:Nat} {c:KV} (hr:ρ b=some r) (e:di b off sz l hi m h c=true):
  ∃z,c z h=true∧VR ρ z (.slice (some (if m=l then ⟨r.blk,off+r.d,none⟩ else (⟨r.blk,off+r.d,none⟩:Addr).add (l*sz))) (hi-l) (m-l)):=by
 simp only[di,AF] at e;split at e
 ·rename_i hq;have:=Nat.eq_of_beq_eq_true hq;rw[if_pos this];exact ⟨_,e,.slc b off _ _ r hr⟩
 ·rename_i hq;have:m≠l:=fun e=>by subst e;simp at hq
  rw[if_neg this,Addr.add_none];refine ⟨_,e,?_⟩;have:=VR.slc (ρ:=ρ) b (off+l*sz) (hi-l) (m-l) r hr;rw[show off+l*sz+r.d=off+r.d+l*sz by omega] at this;exact this
theorem dh {q:List V} {q':List Value} {a:Addr} {off sz l hi m:Nat} {c:KV} (hr:Ua a q') (hl:VL ρ q q') (ho:∀v∈q,v.one=true) (e:um q off sz l hi m h c=true):
  ∃z,c z h=true∧VR ρ z (.slice (some (if m=l then a.add off else (a.add off).add (l*sz))) (hi-l) (m-l)):=by
 simp only[um,AF] at e;split at e
 ·rename_i hq;have:=Nat.eq_of_beq_eq_true hq;rw[if_pos this];exact ⟨_,e,.rsl q off _ _ q' a hr hl ho⟩
 ·rename_i hq;have:m≠l:=fun e=>by subst e;simp at hq
  rw[if_neg this,Addr.add_two];exact ⟨_,e,.rsl q (off+l*sz) (hi-l) (m-l) q' a hr hl ho⟩
theorem RI {x:V} {x':Value} {lo hi:Option V} {lo' hi':Option Value} {t el n:Nat} {ti:TypeInfo} {c:KV} (hu:P.underlying t=some (.array n el)) (hi0:P.info? el=some ti)
  (hx:VR ρ x x') (hl:eJ ρ lo lo') (hh:eJ ρ hi hi') (e:EC x lo hi none ti.size n h c=true):∃z z',c z h=true∧(Instr.sliceAt t x' lo' hi' none).run P w=.ok z' w∧VR ρ z z':=by
 cases hx with
 |ptr b o r hr=>simp only[EC] at e;obtain ⟨m,e,hm,h1,h2⟩:=BK (P:=P) hh e (Nat.le_refl _) .sliceAlen w;obtain ⟨l,e,hl',h3,h4⟩:=BK (P:=P) hl e (Nat.le_refl _) .sliceB w;obtain ⟨z,hz,hv⟩:=KU hr e;refine ⟨z,_,hz,?_,hv⟩;simp [Instr.sliceAt,run_underlying hu,Instr.sureAddr,FK (isS:=false) hm hl',AD hi0]
 |_=>simp [EC] at e
theorem Did.of_pure {c:KV} {r:Result Value} (H:HR X ρ h w) (hd:∃z z',c z h=true∧r=.ok z' w∧VR ρ z z'):Did X ρ h w c r:=by obtain ⟨z,z',h1,h2,h3⟩:=hd;exact ⟨z,z',ρ,h,w,h1,h2,h3,H,Ext.refl _ _ _⟩
theorem uo {b:K} {r:RB} {off op sz l hi m:Nat} {c:KV} (hr:ρ b=some r) (hp:r.sz=op) (hop:op≠0) (hf:off+m*op=r.fill) (hlh:l≤hi) (e:AaG b off op sz l hi m h c=true):
  ∃z,c z h=true∧VR ρ z (.slice (if m+r.x=l then some ⟨r.blk,off+r.d,none⟩ else (some ⟨r.blk,off+r.d,none⟩:Option Addr).map (·.add (l*sz))) (hi-l) (m+r.x-l)):=by
 obtain ⟨p,rfl⟩:∃p,op=p+1:=⟨op-1,by omega⟩
 simp only[AaG,AF] at e;split at e
 ·cases e
 ·rename_i hsz;have hsz:=Nat.eq_of_beq_eq_true hsz;subst hsz;split at e
  ·cases e
  rename_i hhm;have hhm:=Nat.le_of_ble_eq_true hhm;split at e
  ·rename_i hml;have hml:=Nat.eq_of_beq_eq_true hml;subst hml;split at e
   ·have e1:(if 0+r.x=0 then (some ⟨r.blk,off+r.d,none⟩:Option Addr) else (some ⟨r.blk,off+r.d,none⟩:Option Addr).map (·.add (0*(p+1))))=some ⟨r.blk,off+r.d,none⟩:=by
     split
     ·rfl
     ·simp [Addr.add_none]
    rw[e1];refine ⟨_,e,?_⟩;simpa using VR.slo (ρ:=ρ) b off hi 0 p r hr hp hf
   ·rename_i m0 _;refine ⟨_,e,?_⟩;have e2:hi-(m0+1)=0:=tO;rw[e2];split
    ·exact .esl _ _
    ·exact .esl _ _
  ·rename_i hml;have hne:m≠l:=fun e=>by subst e;simp at hml
   refine ⟨_,e,?_⟩;rw[if_neg tO];simp only[Option.map_some,Addr.add_none];have h1:(m-l)*(p+1)+l*(p+1)=m*(p+1):=by rw[←Nat.add_mul];congr 1;omega
   have hv:=VR.slo (ρ:=ρ) b (off+l*(p+1)) (hi-l) (m-l) p r hr hp tO;rw[show off+l*(p+1)+r.d=off+r.d+l*(p+1) by omega,show m-l+r.x=m+r.x-l by omega] at hv;exact hv
theorem bj {x:V} {x':Value} {lo hi mx:Option V} {lo' hi' mx':Option Value} {t el:Nat} {ti:TypeInfo} {c:KV} (hu:P.underlying t=some (.slice el)) (hi0:P.info? el=some ti)
  (hx:VR ρ x x') (hl:eJ ρ lo lo') (hh:eJ ρ hi hi') (hm:eJ ρ mx mx') (e:BT x lo hi mx ti.size h c=true):∃z z',c z h=true∧(Instr.sliceAt t x' lo' hi' mx').run P w=.ok z' w∧VR ρ z z':=by
 have run:∀{a:Option Addr} {len cp l n m:Nat},(Instr.sliceBounds true len cp lo' hi' mx').run P w=.ok (l,n,m) w→
   (Instr.sliceAt t (.slice a len cp) lo' hi' mx').run P w=.ok (.slice (if m=l then a else a.map (·.add (l*ti.size))) (n-l) (m-l)) w:=fun hb=>by
  simp [Instr.sliceAt,run_underlying hu,Instr.slice,hb,AD hi0]
 have most:∀{v:Option V} {n d k:Nat},(v=none→n=d)→(v≠none→n≤k)→d≤k→n≤k:=fun {v} {n} {d} {k} h1 h2 h3=>by
  cases v with
  |none=>rw[h1 rfl];exact h3
  |some v=>exact h2 (by simp)
 cases hx with
 |nils=>
  simp only[BT] at e;cases hm with
  |some mv mv' hmv=>
   simp only at e;cases hh with
   |none=>cases e
   |some hv1 hv1' hhv=>simp only at e;obtain ⟨m,e,hm',h5,h6⟩:=BK (P:=P) (.some _ _ hmv) e (Nat.le_refl _) .slice3Acap w;obtain ⟨n,e,hn,h1,h2⟩:=BK (P:=P) (.some _ _ hhv) e (Nat.zero_le m) .slice3B w;obtain ⟨l,e,hl',h3,h4⟩:=BK (P:=P) hl e (Nat.zero_le n) .slice3C w;have m0:m=0:=Nat.le_zero.1 (most h5 h6 (Nat.le_refl _));have n0:n=0:=Nat.le_zero.1 (most h1 h2 (Nat.le_refl _));have l0:l=0:=Nat.le_zero.1 (most h3 h4 (Nat.le_refl _));subst m0 n0 l0;rw[run (Lm (isS:=true) hm' hn hl')];exact ⟨_,_,e,rfl,by simpa using VR.nils⟩
  |none=>simp only at e;obtain ⟨n,e,hn,h1,h2⟩:=BK (P:=P) hh e (Nat.le_refl _) .sliceAcap w;obtain ⟨l,e,hl',h3,h4⟩:=BK (P:=P) hl e (Nat.zero_le n) .sliceB w;have n0:n=0:=Nat.le_zero.1 (most h1 h2 (Nat.le_refl _));have l0:l=0:=Nat.le_zero.1 (most h3 h4 (Nat.le_refl _));subst n0 l0;rw[run (FK (isS:=true) hn hl')];exact ⟨_,_,e,rfl,by simpa using VR.nils⟩
 |slc b o len cp r hr=>
  simp only[BT] at e;cases hm with
  |none=>simp only at e;obtain ⟨n,e,hn,h1,h2⟩:=BK (P:=P) hh e (Nat.le_refl _) .sliceAcap w;obtain ⟨l,e,hl',h3,h4⟩:=BK (P:=P) hl e (Nat.le_refl _) .sliceB w;rw[run (FK (isS:=true) hn hl')];obtain ⟨z,hz,hv⟩:=KU hr e;refine ⟨z,_,hz,rfl,?_⟩;by_cases hml:cp=l<;>simpa [hml] using hv
  |some mv mv' hmv=>
   simp only at e;obtain ⟨m,e,hm',h5,h6⟩:=BK (P:=P) (.some _ _ hmv) e (Nat.le_refl _) .slice3Acap w;cases hh with
   |none=>cases e
   |some hv1 hv1' hhv=>simp only at e;obtain ⟨n,e,hn,h1,h2⟩:=BK (P:=P) (.some _ _ hhv) e (Nat.le_refl _) .slice3B w;obtain ⟨l,e,hl',h3,h4⟩:=BK (P:=P) hl e (Nat.le_refl _) .slice3C w;rw[run (Lm (isS:=true) hm' hn hl')];obtain ⟨z,hz,hv⟩:=KU hr e;refine ⟨z,_,hz,rfl,?_⟩;by_cases hml:m=l<;>simpa [hml] using hv
 |slo b o len cp p r hr hp hf=>
  simp only[BT] at e;cases hm with
  |none=>simp only at e;obtain ⟨n,e,hn,h1,h2⟩:=BK (P:=P) hh e (show cp≤cp+r.x by omega) .sliceAcap w;obtain ⟨l,e,hl',h3,h4⟩:=BK (P:=P) hl e (Nat.le_refl _) .sliceB w;rw[run (FK (isS:=true) hn hl')];have hln:l≤n:=most h3 h4 (Nat.zero_le _);obtain ⟨z,hz,hv⟩:=uo hr hp tO hf hln e;exact ⟨z,_,hz,rfl,hv⟩
  |some mv mv' hmv=>
   simp only at e;obtain ⟨m,e,hm',h5,h6⟩:=BK (P:=P) (.some _ _ hmv) e (show cp≤cp+r.x by omega) .slice3Acap w;cases hh with
   |none=>cases e
   |some hv1 hv1' hhv=>
    simp only at e;obtain ⟨n,e,hn,h1,h2⟩:=BK (P:=P) (.some _ _ hhv) e (Nat.le_refl _) .slice3B w;obtain ⟨l,e,hl',h3,h4⟩:=BK (P:=P) hl e (Nat.le_refl _) .slice3C w;rw[run (Lm (isS:=true) hm' hn hl')];split at e
    ·obtain ⟨z,hz,hv⟩:=KU hr e;refine ⟨z,_,hz,rfl,?_⟩;by_cases hml:m=l<;>simpa [hml] using hv
    ·cases e
 |rsl q off len cp q' a hr hql hqo=>
  simp only[BT] at e;cases hm with
  |none=>simp only at e;obtain ⟨n,e,hn,h1,h2⟩:=BK (P:=P) hh e (Nat.le_refl _) .sliceAcap w;obtain ⟨l,e,hl',h3,h4⟩:=BK (P:=P) hl e (Nat.le_refl _) .sliceB w;rw[run (FK (isS:=true) hn hl')];obtain ⟨z,hz,hv⟩:=dh hr hql hqo e;refine ⟨z,_,hz,rfl,?_⟩;by_cases hml:cp=l<;>simpa [hml] using hv
  |some mv mv' hmv=>
   simp only at e;obtain ⟨m,e,hm',h5,h6⟩:=BK (P:=P) (.some _ _ hmv) e (Nat.le_refl _) .slice3Acap w;cases hh with
   |none=>cases e
   |some hv1 hv1' hhv=>simp only at e;obtain ⟨n,e,hn,h1,h2⟩:=BK (P:=P) (.some _ _ hhv) e (Nat.le_refl _) .slice3B w;obtain ⟨l,e,hl',h3,h4⟩:=BK (P:=P) hl e (Nat.le_refl _) .slice3C w;rw[run (Lm (isS:=true) hm' hn hl')];obtain ⟨z,hz,hv⟩:=dh hr hql hqo e;refine ⟨z,_,hz,rfl,?_⟩;by_cases hml:m=l<;>simpa [hml] using hv
 |esl a cp=>
  simp only[BT] at e;cases hm with
  |some mv mv' hmv=>cases e
  |none=>
   simp only at e;obtain ⟨n,e,hn,h1,h2⟩:=BK (P:=P) hh e (Nat.zero_le cp) .sliceAcap w;obtain ⟨l,e,hl',h3,h4⟩:=BK (P:=P) hl e (Nat.zero_le n) .sliceB w;have n0:n=0:=Nat.le_zero.1 (most h1 h2 (Nat.le_refl _));have l0:l=0:=Nat.le_zero.1 (most h3 h4 (Nat.le_refl _));subst n0 l0;rw[run (FK (isS:=true) hn hl')];refine ⟨_,_,e,rfl,?_⟩;by_cases hc:cp=0
   ·simpa [hc] using VR.esl (ρ:=ρ) a 0
   ·rw[if_neg tO];simpa [Go.Addr.add] using VR.esl (ρ:=ρ) a cp
 |_=>simp [BT] at e
end
end Go.AJ
namespace Go.AJ
open Go
variable [BN]
section
variable {P:Program} {X:Cx} {ρ:Ren} {h:Hp} {w:World}
structure Src (P:Program) (w:World) (elem sz:Nat) (d:TypeDesc) (x:Value) (n:Nat) (news:Array Value):Prop where
 kind:(∃k m,d=.int k∧x=.int m (n:Int)∧(n:Int)≤1000000000∧(n:Int)*(((P.info? elem).map (·.bytes)).getD 0:Nat)≤1000000000∧∃z,(∀w,(zeroValue elem).run P w=.ok z w)∧news=Builtin.zeroCells z.cells n)∨
  (((∃e,d=.slice e)∨d=.string)∧(Builtin.lenOf x).run P w=.ok n w∧∀k,(Builtin.firstCells sz n x).run P {w with drawn:=k}=.ok news {w with drawn:=k})
 size:news.size=n*sz
theorem Cg {t u ty elem:Nat} {i:TypeInfo} {d:TypeDesc} {base:Option Addr} {sLen sCap n:Nat} {x:Value} {news:Array Value} {w':World} (ht:P.underlying t=some (.slice elem)) (hu:P.underlying u=some d)
  (hi:P.info? elem=some i) (hx:Src P w elem i.size d x n news) (hroom:sLen+n≤sCap)
  (hst:match base with|none=>w'=w|some a=>(storeCells (a.add (sLen*i.size)) news.toList).run P w=.ok () w'):
  (Builtin.append_ #[t,u] ty #[.slice base sLen sCap,x]).run P w=.ok (.slice base (sLen+n) sCap) w':=by
 rcases hx.kind with ⟨k,m,rfl,rfl,hn1,hn2,z,hz,rfl⟩|⟨hd,hlen,hf⟩
 ·simp only[hi,Option.map_some,Option.getD_some] at hn2;have wn:IntKind.i64.wrap (n:Int)=n:=DP tO tO;have c1:¬((n:Int)<0):=tO;have c2:¬(281474976710656<(n:Int)*(i.bytes:Int)):=tO;have hemp:n*i.size=0→Builtin.zeroCells z.cells n= #[]:=fun h0=>Array.eq_empty_of_size_eq_zero (by rw[hx.size,h0]);by_cases h0:n*i.size=0
  ·rw[hemp h0] at hst;cases base with
   |none=>subst hst;simp [Builtin.append_,run_underlying ht,run_underlying hu,AD hi,BJ hi,asInt,asIntOf,wn,c1,c2,hroom,h0]
   |some a=>simp at hst;simp [Builtin.append_,run_underlying ht,run_underlying hu,AD hi,BJ hi,asInt,asIntOf,wn,c1,c2,hroom,h0,hst]
  ·cases base with
   |none=>subst hst;simp [Builtin.append_,run_underlying ht,run_underlying hu,AD hi,BJ hi,asInt,asIntOf,wn,c1,c2,hroom,hz]
   |some a=>simp at hst;simp [Builtin.append_,run_underlying ht,run_underlying hu,AD hi,BJ hi,asInt,asIntOf,wn,c1,c2,hroom,h0,hz,hst]
 ·have hf':(Builtin.firstCells i.size n x).run P w=.ok news w:=hf w.drawn;rcases hd with ⟨e,rfl⟩|rfl
  ·cases base with
   |none=>subst hst;simp [Builtin.append_,run_underlying ht,run_underlying hu,AD hi,hlen,hroom,hf']
   |some a=>simp [Builtin.append_,run_underlying ht,run_underlying hu,AD hi,hlen,hroom,hf',hst]
  ·cases base with
   |none=>subst hst;simp [Builtin.append_,run_underlying ht,run_underlying hu,AD hi,hlen,hroom,hf']
   |some a=>simp [Builtin.append_,run_underlying ht,run_underlying hu,AD hi,hlen,hroom,hf',hst]
theorem IV {t u ty elem:Nat} {i:TypeInfo} {z:Value} {d:TypeDesc} {base:Option Addr} {sLen sCap n:Nat} {x:Value} {news olds:Array Value} (ht:P.underlying t=some (.slice elem)) (hu:P.underlying u=some d)
  (hi:P.info? elem=some i) (hz:i.zero=some z) (hx:Src P w elem i.size d x n news) (hroom:sCap<sLen+n) (h63:sLen+n≤1000000000) (hby:(sLen+n)*i.bytes≤1000000000)
  (hold:(Builtin.firstCells i.size sLen (.slice base sLen sCap)).run P w.drew=.ok olds w.drew):
  (Builtin.append_ #[t,u] ty #[.slice base sLen sCap,x]).run P w=.ok (.slice (some ⟨w.heap.size,0,none⟩) (sLen+n) (grownCap w (sLen+n) sCap elem))
    (w.drew.alloc (.cells (olds++news++Builtin.zeroCells z.cells (grownCap w (sLen+n) sCap elem-(sLen+n))) elem)):=by
 have hn:¬(sLen+n≤sCap):=tO;have h63':¬(9223372036854775807<((sLen:Int)+(n:Int))):=tO;have hfit:=growslice_fits hroom (show (sLen+n)*i.bytes≤140737488355328 by omega);have h48':¬(281474976710656<Builtin.nextslicecap (sLen+n) sCap*i.bytes):=tO;rcases hx.kind with ⟨k,m,rfl,rfl,hn1,hn2,z1,hz1,rfl⟩|⟨hd,hlen,hf⟩
 ·simp only[hi,Option.map_some,Option.getD_some] at hn2;have wn:IntKind.i64.wrap (n:Int)=n:=DP tO tO;have c1:¬((n:Int)<0):=tO;have c2:¬(281474976710656<(n:Int)*(i.bytes:Int)):=tO;have hemp:n*i.size=0→Builtin.zeroCells z1.cells n= #[]:=fun h0=>Array.eq_empty_of_size_eq_zero (by rw[hx.size,h0]);have hzz:z1=z:=by have:=hz1 w;rw[AQ hi hz] at this;cases this;rfl
  subst hzz;by_cases h0:n*i.size=0
  ·rw[hemp h0];simp [Builtin.append_,run_underlying ht,run_underlying hu,AD hi,BJ hi,AQ hi hz,asInt,asIntOf,wn,c1,c2,hn,h63',h48',Question.forced,hold,newRow,grownCap,h0]
  ·simp [Builtin.append_,run_underlying ht,run_underlying hu,AD hi,BJ hi,AQ hi hz,asInt,asIntOf,wn,c1,c2,hn,h63',h48',Question.forced,hold,newRow,grownCap,h0]
 ·have hf':(Builtin.firstCells i.size n x).run P w.drew=.ok news w.drew:=hf _;rcases hd with ⟨e,rfl⟩|rfl
  ·simp [Builtin.append_,run_underlying ht,run_underlying hu,AD hi,BJ hi,AQ hi hz,hlen,hn,h63',h48',Question.forced,hf',hold,newRow,grownCap]
  ·simp [Builtin.append_,run_underlying ht,run_underlying hu,AD hi,BJ hi,AQ hi hz,hlen,hn,h63',h48',Question.forced,hf',hold,newRow,grownCap]
theorem HR.move (H:HR X ρ h w) {b:K} {r:RB} (hb:blk h b≠.none) (hr:ρ b=some r) (x:Blk) (r':RB) (o:Obj) (w':World) (hrr:r'.blk=r.blk)
  (hw:w'.heap=w.heap.set! r.blk o) (hos:w'.os=w.os) (ht:w'.tape=w.tape) (hout:w'.output=w.output) (hx:BR X (ρ.add (nxt h) r') r' x o):
  HR X (ρ.add (nxt h) r') ((h.upd b .none).upd (nxt h) x).bump w'∧Ext ρ h w (ρ.add (nxt h) r') ((h.upd b .none).upd (nxt h) x).bump w':=by
 have hn:ρ (nxt h)=none:=H.fresh (Nat.le_refl _);have hsub:=Ren.add_sub (r:=r') hn;have hlt:=H.lt hb hr;have hbn:b≠nxt h:=fun e=>by rw[e,hn] at hr;cases hr
 have other:∀i,i≠r.blk→w'.heap[i]? =w.heap[i]? :=fun i hi=>by rw[hw];simp [Array.set!_eq_setIfInBounds,Array.getElem?_setIfInBounds_ne (Ne.symm hi)]
 have same:w'.heap[r.blk]? =some o:=by rw[hw];simp [Array.set!_eq_setIfInBounds,hlt]
 have bk:∀b',blk ((h.upd b .none).upd (nxt h) x).bump b'=if b'=nxt h then x else if b'=b then .none else blk h b':=fun b'=>by rw[An,Al,Al]
 have old:∀b',b'≠nxt h→blk ((h.upd b .none).upd (nxt h) x).bump b'≠.none→b'≠b∧blk h b'≠.none:=fun b' e hb'=>by
  rw[bk,if_neg e] at hb';by_cases e2:b'=b
  ·simp [e2] at hb'
  ·rw[if_neg e2] at hb';exact ⟨e2,hb'⟩
 constructor
 ·refine ⟨?_,?_,?_,?_,by rw[hw];simpa using H.bsz,fun i hi=>(other i (by have:=H.bhi b r hb hr;omega)).trans (H.bas i hi),?_⟩
  ·intro b' r1 hb' hr1;by_cases e:b'=nxt h
   ·subst e;rw[Ren.add_same] at hr1;cases hr1;rw[bk,if_pos rfl,hrr];exact ⟨o,same,hx⟩
   ·obtain ⟨hne,hbl⟩:=old b' e hb';rw[Ren.add_other _ _ e] at hr1;obtain ⟨o',ho',hbr⟩:=H.live b' r1 hbl hr1;rw[bk,if_neg e,if_neg hne];refine ⟨o',?_,hbr.mono hsub⟩;rw[other _ (fun e'=>hne (H.inj b' b r1 r hbl hb hr1 hr e'))];exact ho'
  ·intro b1 b2 r1 r2 h1 h2 e1 e2 e;by_cases f1:b1=nxt h<;>by_cases f2:b2=nxt h
   ·rw[f1,f2]
   ·exfalso;subst f1;rw[Ren.add_same] at e1;cases e1;obtain ⟨hne,hbl⟩:=old b2 f2 h2;rw[Ren.add_other _ _ f2] at e2;exact hne (H.inj b2 b r2 r hbl hb e2 hr (by rw[←e,hrr]))
   ·exfalso;subst f2;rw[Ren.add_same] at e2;cases e2;obtain ⟨hne,hbl⟩:=old b1 f1 h1;rw[Ren.add_other _ _ f1] at e1;exact hne (H.inj b1 b r1 r hbl hb e1 hr (by rw[e,hrr]))
   ·rw[Ren.add_other _ _ f1] at e1;rw[Ren.add_other _ _ f2] at e2;exact H.inj b1 b2 r1 r2 (old b1 f1 h1).2 (old b2 f2 h2).2 e1 e2 e
  ·intro b' r1 hr1;rw[Ay,Ap,Ap,K.num_succ];by_cases e:b'=nxt h
   ·subst e;omega
   ·rw[Ren.add_other _ _ e] at hr1;have:=H.dom b' r1 hr1;omega
  ·intro b' hb';rw[Ay,Ap,Ap,K.num_succ] at hb';rw[bk,if_neg (fun e=>by subst e;omega)];split
   ·rfl
   ·exact H.free b' tO
  ·intro b' r1 hb' hr1;by_cases e:b'=nxt h
   ·subst e;rw[Ren.add_same] at hr1;cases hr1;rw[hrr];exact H.bhi b r hb hr
   ·rw[Ren.add_other _ _ e] at hr1;exact H.bhi b' r1 (old b' e hb').2 hr1
 ·refine ⟨hsub,?_,by rw[Ay,Ap,Ap,K.num_succ];omega,?_,by rw[hw];simp,?_,?_,hos,ht,hout⟩
  ·intro b' r1 hr1;by_cases e:b'=nxt h
   ·subst e;exact .inr (Nat.le_refl _)
   ·rw[Ren.add_other _ _ e] at hr1;exact .inl hr1
  ·intro b' hb' hlt';rw[bk,if_neg (fun e=>by subst e;omega),if_neg (fun e=>by subst e;rw[hr] at hb';cases hb')]
  ·intro i _ hne;exact other i (fun e=>hne b r hb hr e.symm)
  ·intro b' r1 hb' hr1;by_cases e:b'=nxt h
   ·subst e;rw[Ren.add_same] at hr1;cases hr1;exact .inl ⟨b,r,hb,hr,hrr.symm⟩
   ·rw[Ren.add_other _ _ e] at hr1;exact .inl ⟨b',r1,(old b' e hb').2,hr1,rfl⟩
theorem DL (H:HR X ρ h w) {b:K} {r:RB} {off n:Nat} {c:List V→Bool} (hr:ρ b=some r) (e:Ea h b off n c=true):
  ∃l l',c l=true∧l.length=n∧VL ρ l l'∧(∀v∈l,v.one=true)∧(∀j v,l'[j]? =some v→w.cell? ⟨r.blk,off+r.d+j,none⟩=some v)∧
   (∀L,blk h b=.cells L→n≠0→off+n≤L.length∧l=(L.drop off).take n):=by
 unfold Ea at e;split at e
 ·exact ⟨[],[],e,rfl,.nil,by simp,by simp,fun _ _ h=>absurd rfl h⟩
 ·rename_i n;obtain ⟨l,hb,e⟩:=BQ e;obtain ⟨hle,hc⟩:=ET _ _ _ e;rw[E7] at hle hc;obtain ⟨c0,t0,fz,hw,hl,hs,_,hvl,ho⟩:=H.cells hb hr;have hlen:off+(n+1)≤l.length:=by rw[List.length_drop] at hle;omega
  refine ⟨_,_,hc,?_,(hvl.drop off).take (n+1),fun v hv=>ho v (List.mem_of_mem_drop (List.mem_of_mem_take hv)),?_,?_⟩
  ·simp;omega
  ·intro j v hj;have hj':=(List.getElem?_eq_some_iff.1 hj).1;have hjn:j<n+1:=by rw[List.length_take] at hj';omega
   rw[List.getElem?_take_of_lt hjn,List.getElem?_drop,List.getElem?_take_of_lt tO,List.getElem?_drop] at hj;simp only[World.cell?,hw,Option.isSome_none,Bool.false_eq_true,if_false];rw[show off+r.d+j=r.d+(off+j) by omega];simpa using hj
  ·intro L hL _;rw[hb] at hL;cases hL;exact ⟨hlen,rfl⟩
theorem Pn (H:HR X ρ h w) {q:List V} {q':List Value} {a:Addr} {off n:Nat} {c:List V→Bool} (hr:Ua a q') (hl:VL ρ q q') (ho:∀v∈q,v.one=true) (e:Et n (Fd off q) c=true):
  ∃l l',c l=true∧l.length=n∧VL ρ l l'∧(∀v∈l,v.one=true)∧∀j v,l'[j]? =some v→w.cell? ((a.add off).add j)=some v:=by
 obtain ⟨hle,hc⟩:=ET _ _ _ e;rw[E7] at hle hc;refine ⟨_,_,hc,by rw[List.length_take];omega,(hl.drop off).take n,fun v hv=>ho v (List.mem_of_mem_drop (List.mem_of_mem_take hv)),fun j v hj=>?_⟩;have hjn:j<n:=by have:=(List.getElem?_eq_some_iff.1 hj).1;rw[List.length_take] at this;omega
 rw[List.getElem?_take_of_lt hjn,List.getElem?_drop] at hj;rw[Addr.add_two];exact H.base hr hj
theorem IA (s:ByteArray):VL ρ (Cy (Db s)) (s.data.map fun b=>Value.int .u8 b.toNat).toList:=by
 simp only[Db,Array.toList_map];generalize s.data.toList=l;induction l with
 |nil=>exact .nil
 |cons b l ih=>exact .cons _ _ _ _ (.int _ _) ih
theorem Pl (H:HR X ρ h w) {x:V} {x':Value} {sz elem:Nat} {d:TypeDesc} {c:Nat→List V→Bool} (hd:(∃e,d=.slice e)∨d=.string) (hx:VR ρ x x') (e:DQ x sz h c=true):
  ∃n l news,c n l=true∧Src P w elem sz d x' n news∧VL ρ l news.toList∧∀v∈l,v.one=true:=by
 cases hx with
 |nils=>refine ⟨0,[], #[],e,⟨.inr ⟨hd,by simp [Builtin.lenOf],fun k=>by simp [Builtin.firstCells]⟩,by simp⟩,.nil,by simp⟩
 |slc b o n cp r hr=>obtain ⟨l,l',hc,hn,hv,ho,hcell,_⟩:=DL H hr (by simpa only[DQ] using e);have hl':=hv.length;refine ⟨n,l,l'.toArray,hc,⟨.inr ⟨hd,by simp [Builtin.lenOf],fun k=>?_⟩,by simp;omega⟩,hv,ho⟩;exact run_firstCells_some (P:=P) _ sz n _ n cp l' tO (fun j v hj=>by rw[Addr.add_none];exact hcell j v hj)
 |slo b o n cp p r hr hp hf=>obtain ⟨l,l',hc,hn,hv,ho,hcell,_⟩:=DL H hr (by simpa only[DQ] using e);have hl':=hv.length;refine ⟨n,l,l'.toArray,hc,⟨.inr ⟨hd,by simp [Builtin.lenOf],fun k=>?_⟩,by simp;omega⟩,hv,ho⟩;exact run_firstCells_some (P:=P) _ sz n _ n _ l' tO (fun j v hj=>by rw[Addr.add_none];exact hcell j v hj)
 |rsl q off n cp q' a hr hql hqo=>obtain ⟨l,l',hc,hn,hv,ho,hcell⟩:=Pn H hr hql hqo (by simpa only[DQ] using e);have hl':=hv.length;refine ⟨n,l,l'.toArray,hc,⟨.inr ⟨hd,by simp [Builtin.lenOf],fun k=>?_⟩,by simp;omega⟩,hv,ho⟩;exact run_firstCells_some (P:=P) _ sz n _ n _ l' tO (fun j v hj=>hcell j v hj)
 |esl a cp=>refine ⟨0,[], #[],by simpa only[DQ] using e,⟨.inr ⟨hd,by simp [Builtin.lenOf],fun k=>?_⟩,by simp⟩,.nil,by simp⟩;exact run_firstCells_some (P:=P) _ sz 0 a 0 cp [] (by simp) (by simp)
 |str a s hs=>
  change Db s=a at hs;subst hs;simp only[DQ] at e;split at e
  ·rw[AF,CN,B9] at e;refine ⟨s.size,_,_,e,⟨.inr ⟨hd,by simp [Builtin.lenOf],fun k=>?_⟩,?_⟩,IA s,?_⟩
   ·simp only[Builtin.firstCells,Sem.run_pure];congr 2;have:s.extract 0 s.size=s:=ByteArray.extract_zero_size;rw[this]
   ·simp
   ·intro v hv;generalize Db s=l at hv;induction l with
    |nil=>simp [Cy] at hv
    |cons b l ih=>
     simp only[Cy,List.mem_cons] at hv;rcases hv with rfl|hv
     ·rfl
     ·exact ih hv
  ·cases e
 |_=>simp [DQ] at e
theorem HR.grown (H:HR X ρ h w) {l:List V} {cs rest:Array Value} (hl:VL ρ l cs.toList) (ho:∀v∈l,v.one=true) (el sz xn:Nat) (hrest:rest.size=xn*sz):
  HR X (ρ.add (nxt h) ⟨w.heap.size,0,xn,sz,l.length⟩) (h.upd (nxt h) (.cells l)).bump (w.drew.alloc (.cells (cs++rest) el))∧
  Ext ρ h w (ρ.add (nxt h) ⟨w.heap.size,0,xn,sz,l.length⟩) (h.upd (nxt h) (.cells l)).bump (w.drew.alloc (.cells (cs++rest) el)):=by
 have hn:ρ (nxt h)=none:=H.fresh (Nat.le_refl _);have hlen:=hl.length;simp only[Array.length_toList] at hlen;have H1:HR X ρ h w.drew:=H.drew _;obtain ⟨H',E⟩:=H1.newName (.cells l) ⟨w.heap.size,0,xn,sz,l.length⟩ (.cells (cs++rest) el) _ rfl rfl ⟨cs++rest,el,(0,0),rfl,rfl,by simp [hlen,hrest],by intro i _;simp,by simp only[List.drop_zero,Array.toList_append];rw[List.take_append_of_le_length (by simp;omega),List.take_of_length_le (by simp;omega)];exact hl.mono (Ren.add_sub hn),ho⟩;exact ⟨H',(Ext.drew ρ h w _).trans E⟩
theorem EW (H:HR X ρ h w) {b:K} {r:RB} {off:Nat} {new:List V} {news:List Value} {c:Hp→Bool} (hr:ρ b=some r) (hv:VL ρ new news) (ho:∀v∈new,v.one=true) (e:storeAt h b off new c=true):
  ∃h' w',c h'=true∧(storeCells ⟨r.blk,off+r.d,none⟩ news).run P w=.ok () w'∧HR X ρ h' w'∧Ext ρ h w ρ h' w':=by
 unfold storeAt at e;split at e
 ·cases hv;exact ⟨h,w,e,rfl,H,Ext.refl _ _ _⟩
 ·obtain ⟨l,hb,e⟩:=BQ e;obtain ⟨hle,e⟩:=Ev _ _ _ _ e;rw[AK] at e;obtain ⟨w',hrun,H',E⟩:=H.lay (P:=P) hb hr hv ho hle;exact ⟨_,w',e,hrun,H',E⟩
theorem Ij (w:World) {need:Nat} (h:need<9223372036854775808) (old:Nat) (e:TypeId):grownCap w need old e<9223372036854775808:=by unfold grownCap Question.cut;simp only;have:=Nat.mod_lt (w.tape w.drawn (.appendCap need old e)) (show 0<2 ^ 63-need by omega);omega
omit [BN] in
theorem Nv {need cp:Nat} {c:Nat→Bool} (e:JO need c=true) (h1:need≤cp) (h2:cp<9223372036854775808):c cp=true:=by
 unfold JO at e;split at e
 ·rename_i h;exact h cp h1 h2
 ·cases e
theorem eA (H:HR X ρ h w) {u:Option (List V)} {old new:List V} {olds news:Array Value} {z:Value} {sz need el newCap:Nat} {c:KV} (hvo:VL ρ old olds.toList) (hoo:∀v∈old,v.one=true) (hvn:VL ρ new news.toList) (hon:∀v∈new,v.one=true)
  (hsz:sz≠0) (hlen:(old++new).length=need*sz) (hcap:need≤newCap) (hlt:newCap<9223372036854775808) (hzs:z.cells.size=sz) (hu:∀zl,u=some zl→VL ρ zl z.cells.toList∧∀v∈zl,v.one=true) (e:El u old new sz need h c=true):
  Did X ρ h w c (.ok (.slice (some ⟨w.heap.size,0,none⟩) need newCap) (w.drew.alloc (.cells (olds++news++Builtin.zeroCells z.cells (newCap-need)) el))):=by
 obtain ⟨p,rfl⟩:∃p,sz=p+1:=⟨sz-1,by omega⟩
 have hone:∀v∈old++new,v.one=true:=by
  intro v hv;rcases List.mem_append.1 hv with h|h
  ·exact hoo _ h
  ·exact hon _ h
 cases u with
 |none=>simp only[El,Ar] at e;obtain ⟨H',E⟩:=H.grown (cs:=olds++news) (rest:=Builtin.zeroCells z.cells (newCap-need)) (by simpa using hvo.append hvn) hone el (p+1) (newCap-need) (by rw[size_zeroCells,hzs]);refine ⟨_,_,_,_,_,e,rfl,?_,H',E⟩;have hv:=VR.slo (ρ:=ρ.add (nxt h) ⟨w.heap.size,0,newCap-need,p+1,(old++new).length⟩) (nxt h) 0 need need p _ (Ren.add_same _ _ _) rfl (by simpa using hlen.symm);rw[show need+(newCap-need)=newCap by omega] at hv;exact hv
 |some zl=>
  obtain ⟨hz1,hz2⟩:=hu zl rfl;have e:=Nv e hcap hlt;rw[Ar] at e;have hzl:zl.length=z.cells.size:=by
   have:=hz1.length
   rwa [Array.length_toList] at this
  have hv0:VL ρ (old++new++rep (newCap-need) zl) (olds++news++Builtin.zeroCells z.cells (newCap-need)).toList:=by rw[Array.toList_append,Array.toList_append];exact (hvo.append hvn).append (Di hz1 hzl (newCap-need))
  obtain ⟨H',E⟩:=HR.newCells (H.drew (w.drawn+1)) hv0 (fun v hv=>by
   rcases List.mem_append.1 hv with h|h
   ·exact hone v h
   ·exact EA hz2 _ v h) el 0
  exact ⟨_,_,_,_,_,e,rfl,.slc _ 0 need newCap ⟨w.heap.size,0,0,0,_⟩ (Ren.add_same _ _ _),H',(Ext.drew ρ h w _).trans E⟩
theorem RQ {c olds vs:List Value} {a k:Nat} (hol:olds.length=k) (h:∀(j:Nat) (v:Value),olds[j]? =some v→c[a+j]? =some v) (hfit:a+k+vs.length≤c.length):
  ((c.take (a+k)++vs++c.drop (a+k+vs.length)).drop a).take (k+vs.length)=olds++vs:=by
 subst hol;apply List.ext_getElem?;intro i;by_cases hi:i<olds.length+vs.length
 ·rw[List.getElem?_take_of_lt hi,List.getElem?_drop,List.append_assoc];by_cases h1:i<olds.length
  ·rw[List.getElem?_append_left (by simp;omega),List.getElem?_take_of_lt tO,List.getElem?_append_left h1];rw[h i olds[i] (List.getElem?_eq_getElem h1),List.getElem?_eq_getElem h1]
  ·rw[List.getElem?_append_right (by simp;omega),List.getElem?_append_left (by simp;omega),List.getElem?_append_right tO];simp only[List.length_take];congr 1;omega
 ·rw[List.getElem?_eq_none (by simp;omega),List.getElem?_eq_none (by simp;omega)]
theorem kf (H:HR X ρ h w) {t u ty elem:Nat} {i:TypeInfo} {d:TypeDesc} {x':Value} {n:Nat} {new:List V} {news:Array Value} {c:KV} (ht:P.underlying t=some (.slice elem)) (hu:P.underlying u=some d)
  (hi:P.info? elem=some i) (hx:Src P w elem i.size d x' n news) (hvn:VL ρ new news.toList) (hon:∀v∈new,v.one=true) (hnl:new.length=n*i.size)
  {b:K} {off len cap p:Nat} {r:RB} {L old:List V} {olds:List Value} (hr:ρ b=some r) (hp:r.sz=p+1) (hps:p+1=i.size) (hf:off+cap*(p+1)=r.fill) (hbL:blk h b=.cells L)
  (hvo:VL ρ old olds) (hoo:∀v∈old,v.one=true) (hol:old.length=len*i.size) (hcell:∀(j:Nat) (v:Value),olds[j]? =some v→w.cell? ⟨r.blk,off+r.d+j,none⟩=some v)
  (hin:len+n≤cap+r.x) (e:El none old new i.size (len+n) (h.upd b .none) c=true):
  Did X ρ h w c ((Builtin.append_ #[t,u] ty #[.slice (some ⟨r.blk,off+r.d,none⟩) len (cap+r.x),x']).run P w):=by
 have hlo:=hvo.length;have hbn:blk h b≠.none:=by rw[hbL];simp
 obtain ⟨c0,t0,fz,hw,hl,hsz,hfz,hvl,ho⟩:=H.cells hbL hr;have hm1:(len+n)*i.size≤(cap+r.x)*i.size:=Nat.mul_le_mul_right _ hin;rw[Nat.add_mul,Nat.add_mul] at hm1;rw[hp,hps] at hsz;rw[hps] at hf;have hns:news.toList.length=n*i.size:=by rw[Array.length_toList,hx.size]
 have hcl:c0.toList.length=c0.size:=Array.length_toList;have hfit:off+len*i.size+r.d+0+news.toList.length≤c0.size:=tO;have hrun:=CH P r.blk (off+len*i.size+r.d) t0 fz news.toList 0 c0 w hw hfz hfit (hvn.one hon);simp only[Nat.add_zero] at hrun;generalize hc1:(c0.toList.take (off+len*i.size+r.d)++news.toList++c0.toList.drop (off+len*i.size+r.d+news.toList.length)).toArray=c1 at hrun;have hc1l:c1.toList=c0.toList.take (off+len*i.size+r.d)++news.toList++c0.toList.drop (off+len*i.size+r.d+news.toList.length):=by rw[←hc1]
 have hc1s:c1.size=c0.size:=by rw[←hc1];simp only[List.size_toArray,List.length_append,List.length_take,List.length_drop];omega
 have hx1:(cap+r.x-(len+n))*i.size+(len+n)*i.size=(cap+r.x)*i.size:=by rw[←Nat.add_mul];congr 1;omega
 rw[Nat.add_mul cap] at hx1;have hnn:ρ (nxt h)=none:=H.fresh (Nat.le_refl _);simp only[El,Ar,Ap] at e;have hmono:=Ren.add_sub (ρ:=ρ) (b:=nxt h) (r:=⟨r.blk,off+r.d,cap+r.x-(len+n),i.size,(len+n)*i.size⟩) hnn;have e1:(c1.toList.drop (off+r.d)).take ((len+n)*i.size)=olds++news.toList:=by rw[hc1l,show off+len*i.size+r.d=off+r.d+len*i.size by omega,Nat.add_mul,←hns];refine RQ tO (fun j v hj=>?_) tO;have:=hcell j v hj;simp [World.cell?,hw] at this;simpa using this
 have hbr:BR X (ρ.add (nxt h) ⟨r.blk,off+r.d,cap+r.x-(len+n),i.size,(len+n)*i.size⟩) ⟨r.blk,off+r.d,cap+r.x-(len+n),i.size,(len+n)*i.size⟩ (.cells (old++new)) (.cells c1 t0 fz):=by
  refine ⟨c1,t0,fz,rfl,?_,?_,?_,?_,?_⟩
  ·rw[List.length_append,hol,hnl,Nat.add_mul]
  ·simp only;omega
  ·rw[hc1s];exact hfz
  ·simp only;rw[e1];exact (hvo.append hvn).mono hmono
  ·intro v hv;rcases List.mem_append.1 hv with h|h
   ·exact hoo _ h
   ·exact hon _ h
 obtain ⟨H',E⟩:=H.move hbn hr (.cells (old++new)) ⟨r.blk,off+r.d,cap+r.x-(len+n),i.size,(len+n)*i.size⟩ _ (w.setRow r.blk c1) rfl (Jf w r.blk c0 c1 t0 fz hw) rfl rfl rfl hbr;refine ⟨_,_,_,_,_,e,Cg (w':=w.setRow r.blk c1) ht hu hi hx hin ?_,?_,H',E⟩
 ·simp only[Addr.add_none];rw[show off+r.d+len*i.size=off+len*i.size+r.d by omega];exact hrun
 ·have hv:=VR.slo (ρ:=ρ.add (nxt h) ⟨r.blk,off+r.d,cap+r.x-(len+n),i.size,(len+n)*i.size⟩) (nxt h) 0 (len+n) (len+n) p _ (Ren.add_same _ _ _) hps.symm (by simp [hps]);rw[hps] at hv;rw[show len+n+(cap+r.x-(len+n))=cap+r.x by omega,Nat.zero_add] at hv;exact hv
theorem QW (H:HR X ρ h w) {cu:Option (List V)} {t u ty elem:Nat} {i:TypeInfo} {z:Value} {d:TypeDesc} {s:V} {s' x':Value} {n:Nat} {new:List V} {news:Array Value} {c:KV} (ht:P.underlying t=some (.slice elem)) (hu:P.underlying u=some d)
  (hi:P.info? elem=some i) (hz:i.zero=some z) (hzs:z.cells.size=i.size) (hs0:i.size≠0) (hx:Src P w elem i.size d x' n news) (hvn:VL ρ new news.toList) (hon:∀v∈new,v.one=true) (hs:VR ρ s s')
  (hcu:∀zl,cu=some zl→VL ρ zl z.cells.toList∧∀v∈zl,v.one=true) (e:Hi cu s n new i.size i.bytes h c=true):Did X ρ h w c ((Builtin.append_ #[t,u] ty #[s',x']).run P w):=by
 have hnl:=hvn.length;simp only[Array.length_toList] at hnl;rw[hx.size] at hnl;have small:∀{need:Nat},Nat.ble (need*(i.bytes+1)) 1000000000=true→need≤1000000000∧need*i.bytes≤1000000000:=fun {need} hb=>by have:=Nat.le_of_ble_eq_true hb;rw[Nat.mul_add,Nat.mul_one] at this;omega
 have hzc:∀k,(Builtin.zeroCells z.cells k).size=k*i.size:=fun k=>by rw[size_zeroCells,hzs]
 have out:∀{cu1:Option (List V)} {ρ1:Ren} {h1:Hp} {base:Option Addr} {sLen sCap:Nat} {old:List V} {olds:Array Value},HR X ρ1 h1 w→VL ρ1 old olds.toList→VL ρ1 new news.toList→(∀v∈old,v.one=true)→old.length=sLen*i.size→
   sCap<sLen+n→Nat.ble ((sLen+n)*(i.bytes+1)) 1000000000=true→(Builtin.firstCells i.size sLen (.slice base sLen sCap)).run P w.drew=.ok olds w.drew→(∀zl,cu1=some zl→VL ρ1 zl z.cells.toList∧∀v∈zl,v.one=true)→El cu1 old new i.size (sLen+n) h1 c=true→
   Did X ρ1 h1 w c ((Builtin.append_ #[t,u] ty #[.slice base sLen sCap,x']).run P w):=by
  intro cu1 ρ1 h1 base sLen sCap old olds H1 hvo hvn1 hoo hol hcap hb hold hcu1 e;obtain ⟨b1,b2⟩:=small hb;rw[IV ht hu hi hz hx hcap b1 b2 hold];exact eA H1 hvo hoo hvn1 hon hs0 (by rw[List.length_append,hol,hnl,Nat.add_mul]) (grownCap_ge w _ _ _) (Ij w tO _ _) hzs hcu1 e
 cases hs with
 |nils=>
  simp only[Hi] at e;cases n with
  |zero=>refine Did.of_pure H ⟨_,_,e,Cg ht hu hi hx (by simp) rfl,?_⟩;simpa using VR.nils
  |succ m=>
   simp only at e;split at e
   ·rename_i hb;exact out (sLen:=0) (olds:= #[]) H .nil hvn (by simp) (by simp) tO (by simpa using hb) (by simp [Builtin.firstCells]) hcu (by simpa using e)
   ·cases e
 |slc b off len cap r hr=>
  simp only[Hi,AF] at e;split at e
  ·rename_i hle;have hle:=Nat.le_of_ble_eq_true hle;obtain ⟨h',w',hc,hrun,H',E⟩:=EW (P:=P) H hr hvn hon e;refine ⟨_,_,ρ,h',w',hc,Cg ht hu hi hx hle ?_,.slc b off _ _ r hr,H',E⟩;simp only[Addr.add_none];rw[show off+r.d+len*i.size=off+len*i.size+r.d by omega];exact hrun
  ·rename_i hle;have hgt:cap<len+n:=by
    have:¬(len+n≤cap):=fun h=>by rw[Nat.ble_eq_true_of_le h] at hle;cases hle
    omega
   simp only[Mq] at e;split at e
   ·rename_i hb;obtain ⟨old,olds,hc,hol,hvo,hoo,hcell,_⟩:=DL H hr e;refine out H (by simpa using hvo) hvn hoo hol hgt hb ?_ hcu hc;have hlo:=hvo.length;have hcell':∀j v,olds[j]? =some v→w.drew.cell? ((⟨r.blk,off+r.d,none⟩:Addr).add j)=some v:=fun j v hj=>by rw[Addr.add_none];exact hcell j v hj
    simpa using run_firstCells_some (P:=P) w.drew i.size len _ len cap olds tO hcell'
   ·cases e
 |slo b off len cap p r hr hp hf=>
  simp only[Hi,AF] at e;split at e
  ·rename_i hle;have hle:=Nat.le_of_ble_eq_true hle;obtain ⟨h',w',hc,hrun,H',E⟩:=EW (P:=P) H hr hvn hon e;refine ⟨_,_,ρ,h',w',hc,Cg ht hu hi hx tO ?_,.slo b off _ _ p r hr hp hf,H',E⟩;simp only[Addr.add_none];rw[show off+r.d+len*i.size=off+len*i.size+r.d by omega];exact hrun
  ·rename_i hle;have hgt:cap<len+n:=by
    have:¬(len+n≤cap):=fun h=>by rw[Nat.ble_eq_true_of_le h] at hle;cases hle
    omega
   simp only[Mq] at e;split at e
   ·rename_i hb;split at e
    ·cases e
    split at e
    ·rename_i hps;have hps:=Nat.eq_of_beq_eq_true hps;obtain ⟨L,hbL,e⟩:=BQ e;obtain ⟨old,olds,hc,hol,hvo,hoo,hcell,_⟩:=DL H hr e;rw[AK] at hc;have hbn:blk h b≠.none:=by rw[hbL];simp
     have hlo:=hvo.length;have hcell':∀j v,olds[j]? =some v→w.drew.cell? ((⟨r.blk,off+r.d,none⟩:Addr).add j)=some v:=fun j v hj=>by rw[Addr.add_none];exact hcell j v hj
     by_cases hin:len+n≤cap+r.x
     ·exact kf H ht hu hi hx hvn hon hnl hr hp hps hf hbL hvo hoo hol hcell hin hc
     ·obtain ⟨H1,E1⟩:=H.drop hr;obtain ⟨z1,z2,ρ',h',w',g1,g2,g3,g4,g5⟩:=out (base:=some ⟨r.blk,off+r.d,none⟩) (sCap:=cap+r.x) (olds:=olds.toArray) H1 (by simpa using hvo) hvn hoo hol tO hb (run_firstCells_some (P:=P) w.drew i.size len _ len (cap+r.x) olds tO hcell') (fun zl h=>by cases h) hc;exact ⟨z1,z2,ρ',h',w',g1,g2,g3,g4,E1.trans g5⟩
    ·cases e
   ·cases e
 |rsl q off len cap q' a hr hql hqo=>
  simp only[Hi,AF] at e;split at e
  ·rename_i hle;have hle:=Nat.le_of_ble_eq_true hle;cases n with
   |succ m=>cases e
   |zero=>refine Did.of_pure H ⟨_,_,e,Cg ht hu hi hx hle ?_,.rsl q off len cap q' a hr hql hqo⟩;have:news= #[]:=Array.eq_empty_of_size_eq_zero (by rw[hx.size];simp);subst this;rfl
  ·rename_i hle;have hgt:cap<len+n:=by
    have:¬(len+n≤cap):=fun h=>by rw[Nat.ble_eq_true_of_le h] at hle;cases hle
    omega
   split at e
   ·rename_i hb;obtain ⟨old,olds,hc,hol,hvo,hoo,hcell⟩:=Pn H hr hql hqo e;refine out H (by simpa using hvo) hvn hoo hol hgt hb ?_ hcu hc;have hlo:=hvo.length;have hcell':∀j v,olds[j]? =some v→w.drew.cell? ((a.add off).add j)=some v:=fun j v hj=>hcell j v hj;simpa using run_firstCells_some (P:=P) w.drew i.size len _ len cap olds tO hcell'
   ·cases e
 |esl a cp=>
  simp only[Hi] at e;cases n with
  |succ m=>cases e
  |zero=>refine Did.of_pure H ⟨_,_,e,Cg ht hu hi hx (Nat.zero_le _) ?_,.esl a cp⟩;have:news= #[]:=Array.eq_empty_of_size_eq_zero (by rw[hx.size];simp);subst this;rfl
 |_=>simp [Hi] at e
theorem bx (H:HR X ρ h w) {cu:Option (List V)} {t u ty elem:Nat} {i:TypeInfo} {z:Value} {d:TypeDesc} {s x:V} {s' x':Value} {c:KV} (ht:P.underlying t=some (.slice elem)) (hu:P.underlying u=some d)
  (hd:(∃e,d=.slice e)∨d=.string) (hi:P.info? elem=some i) (hz:i.zero=some z) (hzs:z.cells.size=i.size) (hs:VR ρ s s') (hx:VR ρ x x')
  (hcu:∀zl,cu=some zl→VL ρ zl z.cells.toList∧∀v∈zl,v.one=true) (e:eQ cu s x i.size i.bytes h c=true):Did X ρ h w c ((Builtin.append_ #[t,u] ty #[s',x']).run P w):=by
 unfold eQ at e;split at e
 ·cases e
 ·rename_i sz hsz;have hsz:sz+1=i.size:=hsz.symm;rw[hsz] at e;obtain ⟨n,l,news,hc,hsrc,hvn,hon⟩:=Pl (P:=P) (elem:=elem) H hd hx e;exact QW H ht hu hi hz hzs tO hsrc hvn hon hs hcu hc
theorem gr (H:HR X ρ h w) {cu:Option (List V)} {t u ty elem:Nat} {i:TypeInfo} {zv:List V} {z:Value} {k:IntKind} {s x:V} {s' x':Value} {c:KV} (ht:P.underlying t=some (.slice elem)) (hu:P.underlying u=some (.int k))
  (hi:P.info? elem=some i) (hz:i.zero=some z) (hzv:VL ρ zv z.cells.toList) (hzo:∀v∈zv,v.one=true) (hzl:zv.length=i.size) (hs:VR ρ s s') (hx:VR ρ x x')
  (hcu:∀zl,cu=some zl→VL ρ zl z.cells.toList∧∀v∈zl,v.one=true) (e:RN cu s x i.size i.bytes zv h c=true):Did X ρ h w c ((Builtin.append_ #[t,u] ty #[s',x']).run P w):=by
 unfold RN at e;split at e
 ·cases e
 ·rename_i sz hsz;have hsz:sz+1=i.size:=hsz.symm;rw[hsz] at e;cases hx with
  |int k' n=>
   cases n with
   |negSucc m=>simp at e
   |ofNat n=>
    simp only at e;split at e
    ·rename_i hb;have hb:=Nat.le_of_ble_eq_true hb;rw[Nat.mul_add,Nat.mul_one] at hb;obtain ⟨_,e⟩:=F1 _ _ _ e;have hzs:z.cells.size=i.size:=by have h1:=hzv.length;simp only[Array.length_toList] at h1;exact h1.symm.trans hzl
     have hb2:((n*i.bytes:Nat):Int)≤1000000000:=tO;rw[Int.natCast_mul] at hb2;refine QW H ht hu hi hz hzs tO (new:=rep n zv) (news:=Builtin.zeroCells z.cells n) ⟨.inl ⟨k,k',rfl,rfl,by omega,by simpa [hi] using hb2,z,fun w=>AQ hi hz w,rfl⟩,by rw[size_zeroCells,hzs]⟩ ?_ (EA hzo n) hs hcu e;have:=Di hzv hzl n;rw[←hzs] at this;exact this
    ·cases e
  |_=>simp at e
end
end Go.AJ
namespace Go.AJ
open Go
variable [BN]
structure POK (P:Program) (X:Cx):Prop extends TyOK P X where
 plain:∀t,X.T.plain t=true→P.stoodInHeld t=false
 ext:∀g,X.ext g=true→∀(s u:ByteArray) (w:World),(callFunc g #[.string s,.string u]).run P w=.ok (.value (.int .i64 (pb (Db s) (Db u)))) w
section
variable {P:Program} {X:Cx} {ρ:Ren} {h:Hp} {w:World} {t:T V} {a:Act}
def Reads (P:Program) (ρ:Ren) (h:Hp) (w:World) (c:KV) (s:Sem Next):Prop:=∃v v',c v h=true∧s.run P w=.ok (.value v') w∧VR ρ v v'
theorem Reads.of {c:KV} {s:Sem Value} (hs:∃z z',c z h=true∧s.run P w=.ok z' w∧VR ρ z z'):Reads P ρ h w c (do pure (.value (←s))):=by obtain ⟨z,z',h1,h2,h3⟩:=hs;exact ⟨z,z',h1,by simp [h2],h3⟩
theorem binOp_eql {x y:Value} (hv:∃v,VR ρ v x) (hx:x.isNum=false) {r:Bool} {t0:Nat} (h:(Op.equalIn 10000 t0 x y).run P w=.ok r w):
  (binOp .eql t0 x y).run P w=.ok (.bool r) w∧(binOp .neq t0 x y).run P w=.ok (.bool (!r)) w:=by
 obtain ⟨v,hv⟩:=hv;cases hv<;>first|(cases hx;done)|simp [binOp,Op.equal,Op.maxDepth,h]
theorem TV (hP:POK P X) (H:HR X ρ h w) {b:Builtin} {ts:Array TypeId} {ty:TypeId} {consts:Array Bool} {as:List AJ.X} {args:Array Value} {op:AOp} (hop:Eb X.T b ts.toList as=some op) (hs:Cn op=.simple)
  (hargs:VL ρ (evs t as) args.toList) {c:KV} (e:Fu op t h c=true):Reads P ρ h w c (builtin b ts ty consts args):=by
 unfold Eb at hop;split at hop
 ·exfalso;unfold Iz at hop;split at hop
  ·split at hop
   ·split at hop<;>cases hop<;>cases hs
   ·cases hop
  ·cases hop
 ·rename_i t1 x hts;simp only[evs] at hargs;generalize hl:args.toList=l at hargs;have hts':ts= #[t1]:=by apply Array.ext';simpa using hts
  subst hts';cases hargs with
  |cons _ x' _ _ hx hr=>
   cases hr;have hargs':args= #[x']:=by apply Array.ext';simpa using hl
   subst hargs';unfold builtin;unfold Aah at hop;split at hop
   ·rename_i n el hd;cases hop;exact Reads.of ⟨_,_,e,by simp [Builtin.len_,run_underlying (hP.un _ _ hd),goInt],.int _ _⟩
   ·rename_i hd;cases hop;exact Reads.of (Oc H (hP.un _ _ hd) (q:=.str) rfl hx e)
   ·rename_i el hd;cases hop;exact Reads.of (Oc H (hP.un _ _ hd) (q:=.sl) ⟨_,rfl⟩ hx e)
   ·rename_i k el hd;cases hop;exact Reads.of (Oc H (hP.un _ _ hd) (q:=.map) ⟨_,_,rfl⟩ hx e)
   ·cases hop
 ·rename_i t1 x hts;simp only[evs] at hargs;generalize hl:args.toList=l at hargs;have hts':ts= #[t1]:=by apply Array.ext';simpa using hts
  subst hts';cases hargs with
  |cons _ x' _ _ hx hr=>
   cases hr;have hargs':args= #[x']:=by apply Array.ext';simpa using hl
   subst hargs';unfold builtin;unfold Aak at hop;split at hop
   ·rename_i el hd;cases hop;exact Reads.of (tf (hP.un _ _ hd) hx e)
   ·cases hop
 ·rename_i x l;cases hop;simp only[evs] at hargs;generalize hl:args.toList=l' at hargs;cases hargs with
  |cons _ x' _ l2 hx hr=>obtain ⟨z,z',hc,hrun,hv⟩:=bp (P:=P) (w:=w) (mx:=true) (c:=fun v=>c v h) hx hr e;unfold builtin;exact Reads.of ⟨z,z',hc,by simpa [Builtin.max_,hl] using hrun,hv⟩
 ·rename_i x l;cases hop;simp only[evs] at hargs;generalize hl:args.toList=l' at hargs;cases hargs with
  |cons _ x' _ l2 hx hr=>obtain ⟨z,z',hc,hrun,hv⟩:=bp (P:=P) (w:=w) (mx:=false) (c:=fun v=>c v h) hx hr e;unfold builtin;exact Reads.of ⟨z,z',hc,by simpa [Builtin.min_,hl] using hrun,hv⟩
 ·exfalso;unfold d0 at hop
  (repeat' split at hop)<;>cases hop<;>cases hs
 ·exfalso;unfold Aaj at hop
  (repeat' split at hop)<;>cases hop<;>cases hs
 ·cases hop
theorem MA (hP:POK P X) (H:HR X ρ h w) {o:Oper} {op:AOp} (hop:cOp X.T X.ext o.op=some op) (hs:Cn op=.simple) (hE:∀x∈o.op.operands.toList,EvR ρ t a x) {c:KV}
  (e:Fu op t h c=true):Reads P ρ h w c (execOp a.eval o):=by
 unfold execOp;cases ho:o.op with
 |move x=>rw[ho] at hop hE;simp only[cOp,oB] at hop;obtain ⟨x',hx,rfl⟩:=hop;exact ⟨_,_,e,rfl,hE x (by simp [Op.operands]) _ hx⟩
 |assign x=>rw[ho] at hop hE;simp only[cOp,oB] at hop;obtain ⟨x',hx,rfl⟩:=hop;exact ⟨_,_,e,rfl,hE x (by simp [Op.operands]) _ hx⟩
 |pick q x y=>rw[ho] at hop hE;simp only[cOp,oB] at hop;obtain ⟨q',hq,x',hx,y',hy,rfl⟩:=hop;obtain ⟨b,v,v',hc,h1,h2,h3⟩:=fU (hE q (by simp [Op.operands]) _ hq) (hE x (by simp [Op.operands]) _ hx) (hE y (by simp [Op.operands]) _ hy) e;refine ⟨v,v',hc,?_,h3⟩;subst h2;simp [h1,asBool]
 |load ty x=>
  rw[ho] at hop hE;simp only[cOp,oB] at hop;obtain ⟨d,hd,n,hn,x',hx,hop⟩:=hop;have hv:=hE x (by simp [Op.operands]) _ hx;split at hop
  ·rename_i hagg;cases hop;obtain ⟨i,hi,rfl⟩:=Bs hP.toTyOK hn;exact Reads.of (ML H (hP.un _ _ hd) hagg hi hv e)
  ·rename_i hagg;cases hop;exact Reads.of (MM H (hP.un _ _ hd) (by simpa using hagg) hv e)
 |fieldAddr s x f=>
  rw[ho] at hop hE;simp only[cOp,oB] at hop;obtain ⟨d,hd,hop⟩:=hop;split at hop
  ·rename_i fs;simp only[Option.bind_eq_some_iff] at hop;obtain ⟨fd,hfd,n,hn,x',hx,hop⟩:=hop;split at hop
   ·cases hop
   ·rename_i hn0;cases hop;obtain ⟨i,hi,rfl⟩:=Bs hP.toTyOK hn;exact Reads.of (RO (hP.un _ _ hd) hfd hi hn0 (hE x (by simp [Op.operands]) _ hx) e)
  ·cases hop
 |binOp b ty x y ty2=>
  rw[ho] at hop hE;simp only[cOp,oB] at hop;obtain ⟨d,hd,x',hx,y',hy,hop⟩:=hop;have hvx:=hE x (by simp [Op.operands]) _ hx;have hvy:=hE y (by simp [Op.operands]) _ hy;have hu:=hP.un _ _ hd;have hg:∀{u v:Value},(∃k n,u=.int k n)∨(∃s,u=.string s)→(eqGuard b ty x y u v).run P w=.ok () w:=fun {u} {v} hk=>
   Aw _ _ _ _ (by rcases hk with ⟨k,n,rfl⟩|⟨s,rfl⟩<;>rfl) w
  have eqs:∀{neg:Bool} {q:EK},zJ X.T ty x y=some q→oEq neg q (ev t x') (ev t y') h c=true→
    ∃r,c (.bool r) h=true∧(eqGuard b ty x y (a.eval x) (a.eval y)).run P w=.ok () w∧(binOp .eql ty (a.eval x) (a.eval y)).run P w=.ok (.bool (if neg then !r else r)) w∧
     (binOp .neq ty (a.eval x) (a.eval y)).run P w=.ok (.bool (if neg then r else !r)) w:=fun {neg} {q} hq e=>by
   obtain ⟨r,hc,h1,h2,h3⟩:=zG (w:=w) hP.toTyOK hq hvx hvy e hP.plain b;obtain ⟨g1,g2⟩:=binOp_eql ⟨_,hvx⟩ h3 h1;cases neg with
   |true=>exact ⟨!r,C8 (by simpa using hc),h2,by simpa using g1,g2⟩
   |false=>exact ⟨r,C8 (by simpa using hc),h2,g1,g2⟩
  cases d with
  |int k=>simp only[oB] at hop;obtain ⟨i,hi,rfl⟩:=hop;obtain ⟨z,z',hc,hr,hv,hk⟩:=gc (P:=P) (w:=w) ty hi hvx hvy e;exact ⟨z,z',hc,by simp [hg (.inl hk),hr],hv⟩
  |string=>simp only[oB] at hop;obtain ⟨i,hi,rfl⟩:=hop;obtain ⟨z,z',hc,hr,hv,hk⟩:=fS (P:=P) (w:=w) ty hi hvx hvy e;exact ⟨z,z',hc,by simp [hg (.inr hk),hr],hv⟩
  |_=>
   cases b<;>simp only[Option.bind_eq_some_iff,Option.some.injEq,reduceCtorEq] at hop
   ·obtain ⟨q,hq,rfl⟩:=hop;obtain ⟨r,hc,h1,h2,h3⟩:=eqs (neg:=false) hq e;exact ⟨_,_,hc,by simp [h1,h2],.bool r⟩
   ·obtain ⟨q,hq,rfl⟩:=hop;obtain ⟨r,hc,h1,h2,h3⟩:=eqs (neg:=true) hq e;exact ⟨_,_,hc,by simp [h1,h3],.bool r⟩
 |build ty ps=>
  rw[ho] at hop hE;simp only[cOp,oB] at hop;obtain ⟨z,hz,d,hd,hop⟩:=hop;obtain ⟨i,z',hi,hz',hv,hlen,hone⟩:=C9 (ρ:=ρ) hP.toTyOK hz;have hu:=hP.un _ _ hd;have hev:∀p∈ps.toList,EvR ρ t a p.2:=fun p hp=>hE p.2 (by simp [Op.operands];exact ⟨p.1,by simpa using hp⟩);have hmap:(ps.map fun p=>(p.1,a.eval p.2)).toList=ps.toList.map fun p=>(p.1,a.eval p.2):=by simp
  split at hop
  ·rename_i fs;split at hop
   ·rename_i hall;simp only[oB] at hop;obtain ⟨ps',hps,rfl⟩:=hop;obtain ⟨places,hpl⟩:∃places,fs.toList.mapM (fun f=>(P.info? f.type).map fun i=>(f.offset,i.size))=some places:=by
     have hall:=Dw.1 hall;generalize fs.toList=l at hall;clear hps;induction l with
     |nil=>exact ⟨[],rfl⟩
     |cons f l ih=>obtain ⟨r,hr⟩:=ih fun x hx=>hall x (.tail _ hx);obtain ⟨j,hj⟩:=Option.isSome_iff_exists.1 (hall f (.head _));exact ⟨(f.offset,j.size)::r,by simp [List.mapM_cons,hr,hP.inf _ _ hj]⟩
    refine Reads.of (oH (place:=(places.toArray[·]?)) ?_ (fun cs hcs=>?_) hv hone e)
    ·rw[hmap];exact UR hP.toTyOK hpl hps hev
    ·simp only[Program.built,hi,hu,hz',hpl];exact hcs
   ·cases hop
  ·rename_i n el;simp only[oB] at hop;obtain ⟨m,hm,ps',hps,rfl⟩:=hop;obtain ⟨ie,hie,rfl⟩:=Bs hP.toTyOK hm;refine Reads.of (oH (place:=fun i=>some (i*ie.size,ie.size)) ?_ (fun cs hcs=>?_) hv hone e)
   ·rw[hmap];exact HU _ hps hev
   ·simp only[Program.built,hi,hu,hz',hie];exact hcs
  ·cases hop
 |unOp u ty x=>
  rw[ho] at hop hE;simp only[cOp,oB] at hop;obtain ⟨x',hx,hop⟩:=hop;have hv:=hE x (by simp [Op.operands]) _ hx;cases u<;>simp only[Option.some.injEq,reduceCtorEq] at hop<;>subst hop
  ·exact Reads.of (sY hv e)
  ·exact Reads.of (sX hv e)
 |indexAddr ty x ix=>
  rw[ho] at hop hE;simp only[cOp,oB] at hop;obtain ⟨x',hx,i',hi,d,hd,hop⟩:=hop;have hvx:=hE x (by simp [Op.operands]) _ hx;have hvi:=hE ix (by simp [Op.operands]) _ hi;split at hop
  ·simp only[oB] at hop;obtain ⟨n,hn,rfl⟩:=hop;obtain ⟨i,hi,rfl⟩:=Bs hP.toTyOK hn;exact Reads.of (ta (hP.un _ _ hd) hi hvx hvi e)
  ·simp only[oB] at hop;obtain ⟨n,hn,rfl⟩:=hop;obtain ⟨i,hi,rfl⟩:=Bs hP.toTyOK hn;exact Reads.of (gb (hP.un _ _ hd) hi hvx hvi e)
  ·cases hop
 |nilCheck x=>rw[ho] at hop hE;simp only[cOp,oB] at hop;obtain ⟨x',hx,rfl⟩:=hop;have hv:=hE x (by simp [Op.operands]) _ hx;obtain ⟨hc,hk⟩:=RJ hv e;refine ⟨_,_,hc,?_,hv⟩;rcases hk with ⟨p,hp⟩|⟨f,b,c',hp⟩|⟨l,b,c',hp⟩<;>simp only[hp,Sem.run_pure]
 |extract x i=>rw[ho] at hop hE;simp only[cOp,oB] at hop;obtain ⟨x',hx,rfl⟩:=hop;exact Reads.of (tc (hE x (by simp [Op.operands]) _ hx) e)
 |makeFunc fn first captured=>
  rw[ho] at hop hE;cases fn with
  |func f=>
   simp only[cOp,oB] at hop;obtain ⟨fs,hf,cs,hc,rfl⟩:=hop;refine Reads.of ⟨_,_,e,rfl,?_⟩;have h1:=Ik (ρ:=ρ) (t:=t) (a:=a) (fun x hx=>hE x (by simp [Op.operands];exact .inl (by simpa using hx))) hf;have h2:=Ik (ρ:=ρ) (t:=t) (a:=a) (fun x hx=>hE x (by simp [Op.operands];exact .inr (by simpa using hx))) hc;have h3:=VR.fn f _ _ _ _ h1 h2;have e1:(⟨first.toList.map a.eval⟩:Array Value)=first.map a.eval:=by apply Array.ext';simp
   have e2:(⟨captured.toList.map a.eval⟩:Array Value)=captured.map a.eval:=by apply Array.ext';simp
   rw[e1,e2] at h3;exact h3
  |_=>simp [cOp] at hop
 |lookup ty m k ok=>
  rw[ho] at hop hE;simp only[cOp,oB] at hop;obtain ⟨d,hd,hop⟩:=hop;split at hop
  ·simp only[oB] at hop;obtain ⟨dk,hdk,z,hz,q,hq,m',hm,k',hk,rfl⟩:=hop;obtain ⟨i,z',hi,hz',hv⟩:=Hk (ρ:=ρ) hP.toTyOK hz;exact Reads.of (RK H (hP.un _ _ hd) (hP.un _ _ hdk) hq hi hz' (hE m (by simp [Op.operands]) _ hm) (hE k (by simp [Op.operands]) _ hk) hv e)
  ·cases hop
 |index ty x ix=>
  rw[ho] at hop hE;simp only[cOp,oB] at hop;obtain ⟨x',hx,i',hi,d,hd,hop⟩:=hop;have hvx:=hE x (by simp [Op.operands]) _ hx;have hvi:=hE ix (by simp [Op.operands]) _ hi;split at hop
  ·simp only[Option.some.injEq] at hop;subst hop;exact Reads.of (fZ (hP.un _ _ hd) hvx hvi e)
  ·simp only[oB] at hop;obtain ⟨d',hd',n,hn,rfl⟩:=hop;obtain ⟨i,hi,rfl⟩:=Bs hP.toTyOK hn;exact Reads.of (ga (hP.un _ _ hd) (hP.un _ _ hd') hi hvx hvi e)
  ·cases hop
 |field ty x f=>
  rw[ho] at hop hE;simp only[cOp,oB] at hop;obtain ⟨d,hd,hop⟩:=hop;split at hop
  ·simp only[oB] at hop;obtain ⟨fd,hfd,d',hd',x',hx,n,hn,rfl⟩:=hop;obtain ⟨i,hi,rfl⟩:=Bs hP.toTyOK hn;exact Reads.of (tb (hP.un _ _ hd) hfd (hP.un _ _ hd') hi (hE x (by simp [Op.operands]) _ hx) e)
  ·cases hop
 |convert s d x=>
  rw[ho] at hop hE;simp only[cOp,oB] at hop;obtain ⟨ds,hds,dd,hdd,x',hx,hop⟩:=hop;have hv:=hE x (by simp [Op.operands]) _ hx;unfold d6 at hop;split at hop
  ·cases hop;exact Reads.of (gj (hP.un _ _ hds) (hP.un _ _ hdd) hv e)
  ·cases hop;have e':DV (ev t x') none none h c=true:=e;generalize hq:a.eval x=vx at hv;generalize ev t x'=vv at hv e';cases hv with
   |str l s hs=>simp only[DV,AF,bnd,Fd,Pg,CN,List.take_length] at e';refine Reads.of ⟨_,_,e',?_,.str _ s hs⟩;simp [convert,run_underlying (hP.un _ _ hds),run_underlying (hP.un _ _ hdd),hq]
   |_=>simp [DV] at e'
  ·split at hop<;>cases hop
   cases hs
  ·split at hop<;>cases hop
   cases hs
  ·cases hop
 |slice ty x lo hi mx=>
  rw[ho] at hop hE;simp only[cOp,oB] at hop;obtain ⟨x',hx,lo',hlo,hi',hhi,mx',hmx,d,hd,hop⟩:=hop;have hvx:=hE x (by simp [Op.operands]) _ hx;have hl:=c9 (ρ:=ρ) (t:=t) (a:=a) (fun y hy=>hE y (by subst hy;simp [Op.operands])) hlo;have hh:=c9 (ρ:=ρ) (t:=t) (a:=a) (fun y hy=>hE y (by subst hy;simp [Op.operands])) hhi;have hm:=c9 (ρ:=ρ) (t:=t) (a:=a) (fun y hy=>hE y (by subst hy;simp [Op.operands])) hmx;split at hop
  ·simp only[oB] at hop;obtain ⟨n,hn,rfl⟩:=hop;obtain ⟨i,hi,rfl⟩:=Bs hP.toTyOK hn;exact Reads.of (bj (hP.un _ _ hd) hi hvx hl hh hm e)
  ·split at hop
   ·cases hop;have:mx=none:=by cases mx with
     |none=>rfl
     |some y=>simp only[cXo] at hmx;split at hmx<;>cases hmx
    subst this;exact Reads.of (RH (hP.un _ _ hd) hvx hl hh e)
   ·cases hop
  ·simp only[oB] at hop;obtain ⟨n,hn,rfl⟩:=hop;obtain ⟨i,hi,rfl⟩:=Bs hP.toTyOK hn;have e':EC (ev t x') (evo t lo') (evo t hi') (evo t mx') i.size _ h c=true:=e;cases hm':evo t mx' with
   |some y=>rw[hm'] at e';cases hvv:ev t x'<;>rw[hvv] at e'<;>simp [EC] at e'
   |none=>rw[hm'] at e' hm;generalize hmm:mx.map a.eval=mm at hm;cases hm;simp only[hmm];exact Reads.of (RI (hP.un _ _ hd) hi hvx hl hh e')
  ·cases hop
 |typeAssert x xt ty ok=>
  rw[ho] at hop;simp only[cOp,oB] at hop;obtain ⟨d,hd,z,hz,x',hx,hop⟩:=hop;split at hop
  ·cases hop
  ·cases hop;cases hs
 |makeInterface ty x=>
  rw[ho] at hop hE;simp only[cOp,oB] at hop;obtain ⟨d,hd,x',hx,hop⟩:=hop;split at hop
  ·cases hop
  ·rename_i hni;cases hop;refine Reads.of ⟨_,_,e,?_,.ifc _ _ _ (hE x (by simp [Op.operands]) _ hx)⟩;simp only[Instr.makeInterface,Sem.run_bind,run_underlying (hP.un _ _ hd),Result.andThen_ok];cases d<;>first|exact absurd rfl (hni _)|simp
 |call cl=>
  rw[ho] at hop hE;simp only[cOp] at hop;split at hop
  ·rename_i b hcal;split at hop
   ·cases hop;cases hs
   ·simp only[oB] at hop;obtain ⟨x',hx,rfl⟩:=hop;cases hs
   ·simp only[Option.bind_eq_bind,Option.bind_eq_some_iff] at hop;obtain ⟨as,has,hop⟩:=hop;have hall:=Ik (ρ:=ρ) (t:=t) (a:=a) (fun x hx=>hE x (by simp [Op.operands,Call.operands,hcal];simpa using hx)) has;obtain ⟨v,v',hc,hrun,hv⟩:=TV (ty:=o.type) (consts:=cl.args.map fun|.const _=>true|_=>false) (args:=cl.args.map a.eval) hP H hop hs (by simpa using hall) e;refine ⟨v,v',hc,?_,hv⟩;simp only[resolve,hcal,invoke,Sem.run_bind,Sem.run_pure,Result.andThen_ok];exact hrun
  ·rename_i f hcal;simp only[Option.bind_eq_bind,Option.pure_def,Option.bind_eq_some_iff] at hop;obtain ⟨as,has,hop⟩:=hop;have hall:=Ik (ρ:=ρ) (t:=t) (a:=a) (fun x hx=>hE x (by simp [Op.operands,Call.operands,hcal];exact .inr (by simpa using hx))) has;split at hop
   ·rename_i g;split at hop
    ·rename_i hg;split at hop
     ·rename_i x y;cases hop;obtain ⟨x',y',hargs⟩:∃x' y',cl.args.toList.map a.eval= [x',y']:=by
       have:=hall.length;simp only[evs,List.length_cons,List.length_nil] at this;match hm:cl.args.toList.map a.eval,this with
       | [x',y'],_=>exact ⟨x',y',rfl⟩
      rw[hargs] at hall;simp only[evs] at hall;cases hall with
      |cons _ _ _ _ h1 hr=>
       cases hr with
       |cons _ _ _ _ h2 _=>
        obtain ⟨s,u,rfl,rfl,hc⟩:=RM h1 h2 e;refine ⟨_,_,hc,?_,.int _ _⟩;have hm:cl.args.map a.eval= #[.string s,.string u]:=by apply Array.ext';simpa using hargs
        simp only[resolve,hcal,Sem.run_bind,Sem.run_pure,Result.andThen_ok,Deferred.ofValue,Act.eval];rw[hm];simp only[invoke];exact hP.ext g hg s u w
     ·cases hop
    ·cases hop;cases hs
   ·cases hop;cases hs
   ·cases hop
  ·cases hop
 |alloc p0=>rw[ho] at hop;simp only[cOp,oB] at hop;obtain ⟨_,_,rfl⟩:=hop;cases hs
 |box p0 p1=>rw[ho] at hop;simp only[cOp,oB] at hop;obtain ⟨_,_,rfl⟩:=hop;cases hs
 |store p0 p1 p2=>rw[ho] at hop;simp only[cOp,oB] at hop;obtain ⟨_,_,_,_,_,_,rfl⟩:=hop;cases hs
 |mapUpdate p0 p1 p2 p3=>
  rw[ho] at hop;simp only[cOp,oB] at hop;obtain ⟨_,_,hop⟩:=hop;split at hop
  ·simp only[oB] at hop;obtain ⟨_,_,_,_,_,_,_,_,_,_,rfl⟩:=hop;cases hs
  ·cases hop
 |insert p0 p1 p2 p3=>
  rw[ho] at hop;simp only[cOp,oB] at hop;obtain ⟨_,_,hop⟩:=hop;split at hop
  ·simp only[oB] at hop;obtain ⟨_,_,_,_,_,_,_,_,_,_,rfl⟩:=hop;cases hs
  ·cases hop
 |makeSlice p0 p1 p2=>
  rw[ho] at hop;simp only[cOp,oB] at hop;obtain ⟨_,_,hop⟩:=hop;split at hop
  ·simp only[oB] at hop;obtain ⟨_,_,_,_,_,_,_,_,rfl⟩:=hop;cases hs
  ·cases hop
 |panic p0=>rw[ho] at hop;simp only[cOp,oB] at hop;obtain ⟨_,_,rfl⟩:=hop;cases hs
 |buildSlice p0 p1 p2=>
  rw[ho] at hop;simp only[cOp,oB] at hop;obtain ⟨_,_,hop⟩:=hop;split at hop
  ·simp only[Option.bind_eq_some_iff] at hop;obtain ⟨_,_,_,_,hop⟩:=hop;split at hop
   ·simp only[oB] at hop;obtain ⟨_,_,rfl⟩:=hop;cases hs
   ·cases hop
  ·cases hop
 |makeMap p0 p1=>
  rw[ho] at hop;simp only[cOp] at hop;split at hop<;>cases hop
  cases hs
 |defer p0=>
  rw[ho] at hop;simp only[cOp] at hop;split at hop
  ·simp only[oB] at hop;obtain ⟨_,_,_,_,rfl⟩:=hop;cases hs
  ·cases hop
 |range p0 p1=>rw[ho] at hop;simp only[cOp,Option.bind_eq_bind,Option.pure_def,Option.bind_eq_some_iff] at hop;obtain ⟨_,_,_,_,hop⟩:=hop;split at hop<;>cases hop<;>cases hs
 |next p0 p1=>
  rw[ho] at hop;simp only[cOp] at hop;split at hop
  ·simp only[oB] at hop;obtain ⟨_,_,rfl⟩:=hop;cases hs
  ·simp only[oB] at hop;obtain ⟨_,_,rfl⟩:=hop;cases hs
 |entry p0=>rw[ho] at hop;simp only[cOp,oB] at hop;obtain ⟨_,_,rfl⟩:=hop;cases hs
 |_=>rw[ho] at hop;simp [cOp] at hop
end
end Go.AJ
namespace Go.AJ
open Go
variable [BN]
section
variable {P:Program} {X:Cx} {ρ:Ren} {h:Hp} {w:World}
theorem Ll (l:List Nat):(Cy l).length=l.length:=by
 induction l with
 |nil=>rfl
 |cons x l ih=>simp [Cy,ih]
theorem JK (l:List Nat):∀v∈Cy l,v.one=true:=by
 induction l with
 |nil=>intro v hv;simp [Cy] at hv
 |cons x l ih=>
  intro v hv;simp only[Cy,List.mem_cons] at hv;rcases hv with rfl|hv
  ·rfl
  ·exact ih v hv
theorem N8 (H:HR X ρ h w) {x:V} {x':Value} {u0:Bool} {c:KV} {s t el:Nat} (hs:P.underlying s=some .string) (hd:P.underlying t=some (.slice el)) (he:P.underlying el=some (.int .u8)) (hx:VR ρ x x')
  (e:FY x u0 h c=true):Did X ρ h w c ((convert s t x').run P w):=by
 cases hx with
 |str a u hu=>
  change Db u=a at hu;subst hu;cases u0 with
  |true=>
   simp only[FY,CN,B9] at e;split at e
   ·rename_i hle;have hle:=Nat.le_of_ble_eq_true hle;have hcap:u.size≤grownCap w u.size 0 el:=grownCap_ge _ _ _ _;have e:=Nv e hcap (Ij w tO 0 el);rw[Ar] at e;have hn:ρ (nxt h)=none:=H.fresh (Nat.le_refl _);have hz:∀k,VL ρ (rep k [.int .u8 (.ofNat 0)]) (List.replicate k (.int .u8 0)):=fun k=>by
     induction k with
     |zero=>exact .nil
     |succ k ih=>exact .cons _ _ _ _ (.int _ _) ih
    have hrow:VL ρ (Cy (Db u)++rep (grownCap w u.size 0 el-u.size) [.int .u8 (.ofNat 0)]) (bytesRow u (grownCap w u.size 0 el)).toList:=by simp only[bytesRow,Array.toList_append,Array.toList_replicate];exact (IA u).append (hz _)
    have hlen:=hrow.length;simp only[Array.length_toList] at hlen;obtain ⟨H',E⟩:=(H.drew (w.drawn+1)).newName (.cells (Cy (Db u)++rep (grownCap w u.size 0 el-u.size) [.int .u8 (.ofNat 0)])) ⟨w.heap.size,0,0,0,(bytesRow u (grownCap w u.size 0 el)).size⟩
     (.cells (bytesRow u (grownCap w u.size 0 el)) el ((bytesRow u (grownCap w u.size 0 el)).size,(bytesRow u (grownCap w u.size 0 el)).size+1)) _ rfl rfl
     ⟨_,_,_,rfl,hlen,by simp,fun i hi hf=>by simp only at hf;omega,by
      simp only[List.drop_zero];rw[List.take_of_length_le (by rw[Array.length_toList];exact Nat.le_refl _)];exact hrow.mono (Ren.add_sub hn),fun v hv=>by
       rcases List.mem_append.1 hv with h|h
       ·exact JK _ v h
       ·exact EA (z:= [.int .u8 (.ofNat 0)]) (by simp [V.one]) _ v h⟩
    exact ⟨_,.slice (some ⟨w.heap.size,0,none⟩) u.size (grownCap w u.size 0 el),_,_,_,e,run_bytes_of_string w s t el u hs hd he,.slc _ 0 u.size (grownCap w u.size 0 el) ⟨w.heap.size,0,0,0,_⟩ (Ren.add_same _ _ _),H',(Ext.drew ρ h w _).trans E⟩
   ·cases e
  |false=>
  simp only[FY,Ar,AF,CN,B9] at e;have hcap:u.size≤grownCap w u.size 0 el:=grownCap_ge _ _ _ _;have hn:ρ (nxt h)=none:=H.fresh (Nat.le_refl _);have hrow:=IA (ρ:=ρ) u;have hlen:(Cy (Db u)).length=u.size:=by rw[Ll,B9]
  obtain ⟨H',E⟩:=(H.drew (w.drawn+1)).newName (.cells (Cy (Db u))) ⟨w.heap.size,0,grownCap w u.size 0 el-u.size,1,u.size⟩
   (.cells (bytesRow u (grownCap w u.size 0 el)) el ((bytesRow u (grownCap w u.size 0 el)).size,(bytesRow u (grownCap w u.size 0 el)).size+1)) _ rfl rfl
   ⟨_,_,_,rfl,hlen,by simp [bytesRow],fun i hi hf=>by simp only at hf;omega,by simp only[bytesRow,List.drop_zero,Array.toList_append];rw[List.take_append_of_le_length (by simp),List.take_of_length_le (by simp)];exact hrow.mono (Ren.add_sub hn),JK _⟩
  refine ⟨_,.slice (some ⟨w.heap.size,0,none⟩) u.size (grownCap w u.size 0 el),_,_,_,e,?_,?_,H',(Ext.drew ρ h w _).trans E⟩
  ·exact run_bytes_of_string w s t el u hs hd he
  ·have:=VR.slo (ρ:=ρ.add (nxt h) ⟨w.heap.size,0,grownCap w u.size 0 el-u.size,1,u.size⟩) (nxt h) 0 u.size u.size 0 ⟨w.heap.size,0,grownCap w u.size 0 el-u.size,1,u.size⟩ (Ren.add_same _ _ _) rfl (by simp);simpa only[Nat.zero_add,show u.size+(grownCap w u.size 0 el-u.size)=grownCap w u.size 0 el by omega] using this
 |_=>simp [FY] at e
theorem bH : ∀ {l : List V} {c : List Nat → Bool}, H6 l c = true → ∃ ns, c ns = true ∧ (∀ n ∈ ns, n < 256) ∧ l = Cy ns := by
  intro l
  induction l with
  | nil => intro c e; exact ⟨[], e, by simp, rfl⟩
  | cons v l ih =>
    intro c e
    simp only [H6] at e
    (repeat' split at e) <;> first
      | (rename_i n hn
         obtain ⟨ns, h1, h2, h3⟩ := ih e
         refine ⟨_ :: ns, h1, ?_, by rw [h3]; rfl⟩
         intro m hm
         rcases List.mem_cons.1 hm with rfl | hm
         · exact Nat.blt_eq ▸ hn
         · exact h2 m hm)
      | cases e
theorem OX {ns:List Nat} {l':List Value} (h:VL ρ (Cy ns) l'):l'=(ns.map Int.ofNat).map (Value.int .u8):=by
 induction ns generalizing l' with
 |nil=>cases h;rfl
 |cons n ns ih=>
  cases h with
  |cons _ v' _ l' hv hl=>cases hv;rw[ih hl];rfl
theorem Ry (ns:List Nat) (hb:∀n∈ns,n<256):∀(s:ByteArray),Db ((ns.map Int.ofNat).foldl (fun r n=>r.push (UInt8.ofNat n.toNat)) s)=Db s++ns:=by
 induction ns with
 |nil=>intro s;simp
 |cons n ns ih=>intro s;rw[List.map_cons,List.foldl_cons,ih (fun m hm=>hb m (.tail _ hm))];have hn:=hb n (.head _);simp [Db,ByteArray.push];omega
theorem N9 (H:HR X ρ h w) {x:V} {x':Value} {c:KV} {s t el:Nat} (hs:P.underlying s=some (.slice el)) (he:P.underlying el=some (.int .u8)) (hd:P.underlying t=some .string) (hx:VR ρ x x')
  (e:EZ x h c=true):∃z z',c z h=true∧(convert s t x').run P w=.ok z' w∧VR ρ z z':=by
 have cells:∀(b:K) (off len:Nat) (r:RB) (cp:Nat),ρ b=some r→(Ea h b off len fun q=>H6 q fun u=>c (.str u) h)=true→
   ∃z z',c z h=true∧(convert s t (.slice (some ⟨r.blk,off+r.d,none⟩) len cp)).run P w=.ok z' w∧VR ρ z z':=by
  intro b off len r cp hr e;obtain ⟨l,l',hc,hn,hv,ho,hcell,_⟩:=DL H hr e;obtain ⟨ns,hq,hb,rfl⟩:=bH hc;have hl':=OX hv;have hlen:=hv.length;refine ⟨.str ns,.string ((ns.map Int.ofNat).foldl (fun r n=>r.push (UInt8.ofNat n.toNat)) ByteArray.empty),hq,?_,.str _ _ ?_⟩
  ·rw[run_convert_bytes_string w s t el _ len cp hs he hd];refine run_bytesToString w _ len cp _ ?_;have:=run_firstCells_some (P:=P) w 1 len ⟨r.blk,off+r.d,none⟩ len cp l' tO (fun j v hj=>by rw[Addr.add_none];exact hcell j v hj);simp only[Builtin.firstCells,Nat.mul_one] at this;rw[this,hl']
  ·have:=Ry ns hb ByteArray.empty;simpa [Db] using this
 cases hx with
 |nils=>refine ⟨.str [],.string .empty,e,?_,.str _ _ rfl⟩;rw[run_convert_bytes_string w s t el _ _ _ hs he hd];simp [Conv.bytesToString]
 |slc b o l cp r hr=>
  cases l with
  |zero=>exact cells b o 0 r cp hr e
  |succ n=>exact cells b o (n+1) r cp hr e
 |slo b o l cp p r hr hp hf=>
  cases l with
  |zero=>exact cells b o 0 r _ hr e
  |succ n=>exact cells b o (n+1) r _ hr e
 |esl a cp=>refine ⟨.str [],.string .empty,e,?_,.str _ _ rfl⟩;rw[run_convert_bytes_string w s t el _ _ _ hs he hd];have h0:(loadCells a 0).run P w=.ok #[] w:=Ff (P:=P) (w:=w) a [] (by simp);simp [Conv.bytesToString,h0]
 |_=>simp [EZ] at e
theorem P0 (H:HR X ρ h w) {s t ty el:Nat} {i:TypeInfo} {d:TypeDesc} {x y:V} {x' y':Value} {c:KV} (ht:P.underlying t=some (.slice el)) (hd:(∃e,d=.slice e)∨d=.string) (hi:P.info? el=some i)
  (hx:VR ρ x x') (hy:VR ρ y y') (e:RL x y i.size h c=true):Did X ρ h w c ((Builtin.copy_ #[t,s] ty #[x',y']).run P w):=by
 have go:∀(b:K) (off len cp:Nat) (r:RB),ρ b=some r→(DQ y i.size h fun n0 new=>(match Nat.ble n0 len with
   |true=>storeAt h b off new fun h'=>c (.int .i64 (.ofNat n0)) h'
   |false=>false))=true→Did X ρ h w c ((Builtin.copy_ #[t,s] ty #[.slice (some ⟨r.blk,off+r.d,none⟩) len cp,y']).run P w):=by
  intro b off len cp r hr e;obtain ⟨n,l,news,hc,hsrc,hvn,hon⟩:=Pl (P:=P) (elem:=el) H hd hy e;split at hc
  ·rename_i hle;have hle:=Nat.le_of_ble_eq_true hle;obtain ⟨h',w',hk,hrun,H',E⟩:=EW (P:=P) H hr hvn hon hc;rcases hsrc.kind with ⟨k,m,hk1,_⟩|⟨_,hlen,hfirst⟩
   ·rcases hd with ⟨e,he⟩|he<;>rw[he] at hk1<;>cases hk1
   ·refine ⟨_,.int .i64 (n:Int),ρ,h',w',hk,?_,.int _ _,H',E⟩;have hf:=hfirst w.drawn;have hf:(Builtin.firstCells i.size n y').run P w=.ok news w:=hf;have hmin:Nat.min n len=n:=Nat.min_eq_left hle;simp [Builtin.copy_,run_underlying ht,hlen,AD hi,hmin,hf,hrun,goInt]
  ·cases hc
 cases hx with
 |slc b o l cp r hr=>exact go b o l cp r hr e
 |slo b o l cp p r hr hp hf=>exact go b o l _ r hr e
 |_=>simp [RL] at e
theorem te (H:HR X ρ h w) {t ty el:Nat} {i:TypeInfo} {z:List V} {z':Value} {x:V} {x':Value} {c:Hp→Bool} (ht:P.underlying t=some (.slice el)) (hi:P.info? el=some i) (hz':i.zero=some z') (hz:VL ρ z z'.cells.toList) (hn:z.length=i.size)
  (ho:∀v∈z,v.one=true) (hx:VR ρ x x') (e:AbC x z h c=true):
  ∃h' w',c h'=true∧(Builtin.clear_ #[t] ty #[x']).run P w=.ok (.tuple #[]) w'∧HR X ρ h' w'∧Ext ρ h w ρ h' w':=by
 have hzs:z'.cells.size=i.size:=by have h1:=hz.length;simp only[Array.length_toList] at h1;exact h1.symm.trans hn
 have go:∀(b:K) (off len cp:Nat) (r:RB),ρ b=some r→storeAt h b off (rep len z) c=true→∃h' w',c h'=true∧(Builtin.clear_ #[t] ty #[.slice (some ⟨r.blk,off+r.d,none⟩) len cp]).run P w=.ok (.tuple #[]) w'∧HR X ρ h' w'∧Ext ρ h w ρ h' w':=by
  intro b off len cp r hr e;cases len with
  |zero=>refine ⟨h,w,e,?_,H,Ext.refl _ _ _⟩;simp [Builtin.clear_,run_underlying ht]
  |succ m=>have hv:=Di hz hn (m+1);rw[←hzs] at hv;obtain ⟨h',w',hk,hrun,H',E⟩:=EW (P:=P) H hr (news:=(Builtin.zeroCells z'.cells (m+1)).toList) hv (EA ho _) e;refine ⟨h',w',hk,?_,H',E⟩;simp [Builtin.clear_,run_underlying ht,AQ hi hz',hrun]
 cases hx with
 |nils=>exact ⟨h,w,e,by simp [Builtin.clear_,run_underlying ht],H,Ext.refl _ _ _⟩
 |slc b o l cp r hr=>exact go b o l cp r hr e
 |slo b o l cp p r hr hp hf=>exact go b o l _ r hr e
 |_=>simp [AbC] at e
end
end Go.AJ
namespace Go.AJ
open Go
variable [BN]
section
variable {P:Program} {X:Cx} {ρ:Ren} {h:Hp} {w:World}
theorem fT (H:HR X ρ h w) {x:V} {x':Value} {c:KV} {t:Nat} (hu:P.underlying t=some .string) (hx:VR ρ x x') (e:oG true x h c=true):Did X ρ h w c ((Instr.range t x').run P w):=by
 cases hx with
 |str l u hl=>simp only[oG,Ar] at e;obtain ⟨H',E⟩:=H.newName (.iterS l 0) ⟨w.heap.size,0,0,0,0⟩ (.stringIter u 0) _ rfl rfl ⟨rfl,u,rfl,hl⟩;refine ⟨_,.pointer (some ⟨w.heap.size,0,none⟩),_,_,_,e,?_,.ptr _ 0 ⟨w.heap.size,0,0,0,0⟩ (Ren.add_same _ _ _),H',E⟩;simp [Instr.range,run_underlying hu]
 |_=>simp [oG] at e
theorem sV (H:HR X ρ h w) {x:V} {x':Value} {c:KV} {t kt el:Nat} (hu:P.underlying t=some (.map kt el)) (hx:VR ρ x x') (e:oG false x h c=true):Did X ρ h w c ((Instr.range t x').run P w):=by
 cases hx with
 |nilm=>simp only[oG,Ar] at e;obtain ⟨H',E⟩:=H.newName (.iter none 0 [] 0) ⟨w.heap.size,0,0,0,0⟩ (.mapIter none 0 #[] 0) _ rfl rfl ⟨rfl,none,rfl,rfl⟩;refine ⟨_,.pointer (some ⟨w.heap.size,0,none⟩),_,_,_,e,?_,.ptr _ 0 ⟨w.heap.size,0,0,0,0⟩ (Ren.add_same _ _ _),H',E⟩;simp [Instr.range,run_underlying hu]
 |map b r hr=>
  simp only[oG] at e;split at e
  ·rename_i es clock hb;rw[Ar] at e;obtain ⟨o,ho,hbr⟩:=H.live b r (by rw[hb];simp) hr;rw[hb] at hbr;obtain ⟨es',rfl,hm⟩:=hbr;have hn:ρ (nxt h)=none:=H.fresh (Nat.le_refl _);obtain ⟨H',E⟩:=H.newName (.iter (some b) clock [] clock) ⟨w.heap.size,0,0,0,0⟩ (.mapIter (some r.blk) clock #[] clock) _ rfl rfl ⟨rfl,some r.blk,rfl,r,Ren.add_sub hn _ _ hr,rfl⟩;refine ⟨_,.pointer (some ⟨w.heap.size,0,none⟩),_,_,_,e,?_,.ptr _ 0 ⟨w.heap.size,0,0,0,0⟩ (Ren.add_same _ _ _),H',E⟩;have hg:(getObj r.blk).run P w=.ok (.map es' clock) w:=by simp [getObj,Sem.run,ho]
   simp [Instr.range,run_underlying hu,hg]
  ·cases e
 |_=>simp [oG] at e
theorem fV (H:HR X ρ h w) {x:V} {x':Value} {c:KV} (ty:Nat) (hx:VR ρ x x') (e:fW x h c=true):Did X ρ h w c ((Instr.next x' true ty).run P w):=by
 cases hx with
 |ptr b o r hr=>
  simp only[fW] at e;split at e
  ·split at e
   ·rename_i s pos hb;have hbn:blk h b≠.none:=by rw[hb];simp
    obtain ⟨o,ho,hbr⟩:=H.live b r hbn hr;rw[hb] at hbr;obtain ⟨hd,u,rfl,rfl⟩:=hbr;rw[hd];have hlen:((u.data.toList.map UInt8.toNat).length)=u.size:=by rw[List.length_map,Array.length_toList];rfl
    simp only[AF,CN,hlen] at e;split at e
    ·rename_i hlt;have hnlt:¬pos<u.size:=fun hx=>by rw[Nat.blt_eq.mpr hx] at hlt;cases hlt
     refine Did.of_pure H ⟨_,.tuple #[.bool false],e,?_,.tup _ _ (.cons _ _ _ _ (.bool false) .nil)⟩;simp [Instr.next,getObj,Sem.run,ho,hnlt]
    ·rename_i hlt;have hlt:pos<u.size:=Nat.blt_eq▸hlt;obtain ⟨q,hq,e⟩:=H0 _ _ _ e;split at e
     ·rename_i ha;have ha:q<128:=Nat.blt_eq▸ha;rw[AK] at e;have hq2:(u[pos]'hlt).toNat=q:=by rw[List.getElem?_map,Option.map_eq_some_iff] at hq;obtain ⟨z,hz,rfl⟩:=hq;rw[Array.getElem?_toList] at hz;obtain ⟨_,hz2⟩:=Array.getElem?_eq_some_iff.1 hz;rw[←hz2];rfl
      have hdec:=decode_ascii u pos hlt tO;obtain ⟨H',E⟩:=H.turn hbn hr (.iterS (u.data.toList.map UInt8.toNat) (pos+1)) (.stringIter u (pos+1)) (ChangeMaps.setBlock w r.blk (.stringIter u (pos+1)))
       (by simp [ChangeMaps.setBlock,Array.set!_eq_setIfInBounds]) rfl rfl rfl ⟨hd,u,rfl,rfl⟩
      refine ⟨_,.tuple #[.bool true,.int .i64 (pos:Int),.int .i32 (q:Int)],ρ,_,_,e,?_,.tup _ _ (.cons _ _ _ _ (.bool true) (.cons _ _ _ _ (.int _ _) (.cons _ _ _ _ (.int _ _) .nil))),H',E⟩;simp [Instr.next,getObj,setObj,Sem.run,ho,hlt,hdec,hq2,goInt,ChangeMaps.setBlock]
     ·cases e
   ·cases e
  ·cases e
 |_=>simp [fW] at e
omit [BN] in
theorem Kt {n:Nat}:∀{l:List Nat},wT n l=true↔n∈l:=by
 intro l;induction l with
 |nil=>simp [wT]
 |cons m l ih=>
  simp only[wT];split
  ·rename_i h;simp [Nat.eq_of_beq_eq_true h]
  ·rename_i h;have:n≠m:=fun e=>by subst e;simp at h
   simp [ih,this]
theorem eh {since:Nat}:∀{es:List ME} {es':List MapEntry},MR ρ es es'→QM since es=true→∀x∈es',x.born<since:=by
 intro es es' hm;induction hm with
 |nil=>intro _ x hx;cases hx
 |cons k v k' v' b l l' _ _ _ ih=>
  intro e x hx;simp only[QM] at e;split at e
  ·rename_i hb;rcases List.mem_cons.1 hx with rfl|hx
   ·exact Nat.blt_eq▸hb
   ·exact ih e x hx
  ·cases e
theorem H5 {seen:List Nat}:∀{es:List ME} {es':List MapEntry},MR ρ es es'→(Du seen es=true↔∀x∈es',x.born∈seen):=by
 intro es es' hm;induction hm with
 |nil=>simp [Du]
 |cons k v k' v' b l l' _ _ _ ih=>
  simp only[Du];split
  ·rename_i hb;rw[ih];simp [Kt.1 hb]
  ·rename_i hb;simp only[List.mem_cons,forall_eq_or_imp];constructor
   ·intro h;cases h
   ·intro h;rw[Kt.2 h.1] at hb;cases hb
theorem gs {seen:List Nat} {c:V→V→Nat→Bool}:∀{es:List ME} {es':List MapEntry},MR ρ es es'→bB seen c es=true→∀x∈es',x.born∉seen→∃k v,c k v x.born=true∧VR ρ k x.key∧VR ρ v x.val:=by
 intro es es' hm;induction hm with
 |nil=>intro _ x hx;cases hx
 |cons k v k' v' b l l' hk hv _ ih=>
  intro e x hx hs;simp only[bB] at e;split at e
  ·rename_i hb;rcases List.mem_cons.1 hx with rfl|hx
   ·exact absurd (Kt.1 hb) hs
   ·exact ih e x hx hs
  ·split at e
   ·rename_i hc;rcases List.mem_cons.1 hx with rfl|hx
    ·exact ⟨k,v,hc,hk,hv⟩
    ·exact ih e x hx hs
   ·cases e
theorem sW (H:HR X ρ h w) {x:V} {x':Value} {c:KV} (ty:Nat) (hx:VR ρ x x') (e:AaD x h c=true):Did X ρ h w c ((Instr.next x' false ty).run P w):=by
 cases hx with
 |ptr b o r hr=>
  simp only[AaD] at e;split at e
  ·split at e
   ·rename_i m since seen last hb;have hbn:blk h b≠.none:=by rw[hb];simp
    obtain ⟨o,ho,hbr⟩:=H.live b r hbn hr;rw[hb] at hbr;obtain ⟨hd,m',rfl,hm⟩:=hbr;rw[hd];cases m with
    |none=>simp only at hm e;subst hm;refine Did.of_pure H ⟨_,.tuple #[.bool false],e,?_,.tup _ _ (.cons _ _ _ _ (.bool false) .nil)⟩;simp [Instr.next,getObj,Sem.run,ho]
    |some bm=>
     simp only at hm e;obtain ⟨q,hq,rfl⟩:=hm;split at e
     ·rename_i es clock hbm;obtain ⟨om,hom,hbrm⟩:=H.live bm q (by rw[hbm];simp) hq;rw[hbm] at hbrm;obtain ⟨es',rfl,hmr⟩:=hbrm;split at e
      ·rename_i hlt;split at e
       ·rename_i hle;have hle:=Nat.le_of_ble_eq_true hle;have hold:=eh hmr hlt;rcases run_next_at (P:=P) w ty r.blk q.blk since last ⟨seen⟩ es' clock ho hom hold hle with ⟨h0,hrun⟩|⟨x,hxm,w1,hw1,hrun⟩
        ·have hnone:Du seen es=true:=by rw[H5 hmr];intro x hx;unfold leftOf at h0;have:=Array.filter_eq_empty_iff.1 (Array.eq_empty_of_size_eq_zero h0) x (by simpa using hx);simpa using this
         rw[hnone] at e;exact Did.of_pure H ⟨_,_,e,hrun,.tup _ _ (.cons _ _ _ _ (.bool false) .nil)⟩
        ·unfold leftOf at hxm;simp only[Array.toList_filter,List.mem_filter,Bool.not_eq_true'] at hxm;obtain ⟨hxe,hxs⟩:=hxm;have hxs:x.born∉seen:=by simpa using hxs
         have hnone:Du seen es=false:=by
          cases hn:Du seen es with
          |false=>rfl
          |true=>exact absurd ((H5 hmr).1 hn x hxe) hxs
         rw[hnone] at e;obtain ⟨k,v,hc,hk,hv⟩:=gs hmr e x hxe hxs;rw[AK] at hc;have Hd:HR X ρ h w1∧Ext ρ h w ρ h w1:=by
          rcases hw1 with rfl|rfl
          ·exact ⟨H,Ext.refl _ _ _⟩
          ·exact ⟨H.drew _,Ext.drew _ _ _ _⟩
         obtain ⟨H',E⟩:=Hd.1.turn hbn hr (.iter (some bm) since (seen++ [x.born]) clock) (.mapIter (some q.blk) since (Array.push ⟨seen⟩ x.born) clock) (ChangeMaps.setBlock w1 r.blk (.mapIter (some q.blk) since (Array.push ⟨seen⟩ x.born) clock))
          (by simp [ChangeMaps.setBlock,Array.set!_eq_setIfInBounds]) rfl rfl rfl ⟨hd,some q.blk,by simp,q,hq,rfl⟩
         exact ⟨_,_,ρ,_,_,hc,hrun,.tup _ _ (.cons _ _ _ _ (.bool true) (.cons _ _ _ _ hk (.cons _ _ _ _ hv .nil))),H',Hd.2.trans E⟩
       ·cases e
      ·cases e
     ·cases e
   ·cases e
  ·cases e
 |_=>simp [AaD] at e
omit [BN] in
theorem hX {l:List Nat} {c:Nat→Bool} (e:tW l c=true):∃q,l.getLast? =some q∧c q=true:=by
 induction l with
 |nil=>cases e
 |cons n l ih=>
  cases l with
  |nil=>exact ⟨n,rfl,e⟩
  |cons m l=>obtain ⟨q,h1,h2⟩:=ih e;exact ⟨q,by simpa using h1,h2⟩
theorem iW {q:Nat} {c:V→V→Bool}:∀{es:List ME} {es':List MapEntry},MR ρ es es'→iX q c es=true→∃x k v,es'.find? (·.born==q)=some x∧c k v=true∧VR ρ k x.key∧VR ρ v x.val:=by
 intro es es' hm;induction hm with
 |nil=>intro e;cases e
 |cons k v k' v' b l l' hk hv _ ih=>
  intro e;simp only[iX] at e;split at e
  ·rename_i hb;have:=Nat.eq_of_beq_eq_true hb;exact ⟨⟨k',v',b⟩,k,v,by simp [this],e,hk,hv⟩
  ·rename_i hb;have hne:b≠q:=fun e=>by subst e;simp at hb
   obtain ⟨x,k1,v1,h1,h2,h3,h4⟩:=ih e;exact ⟨x,k1,v1,by simp [hne,h1],h2,h3,h4⟩
theorem td (H:HR X ρ h w) {x:V} {x':Value} {c:KV} (hx:VR ρ x x') (e:AaE x h c=true):∃z z',c z h=true∧(Instr.entry x').run P w=.ok z' w∧VR ρ z z':=by
 cases hx with
 |ptr b o r hr=>
  simp only[AaE] at e;split at e
  ·split at e
   ·rename_i m since seen last hb;have hbn:blk h b≠.none:=by rw[hb];simp
    obtain ⟨o,ho,hbr⟩:=H.live b r hbn hr;rw[hb] at hbr;obtain ⟨hd,m',rfl,hm⟩:=hbr;rw[hd];cases m with
    |none=>cases e
    |some bm=>
     simp only at hm e;obtain ⟨q,hq,rfl⟩:=hm;split at e
     ·rename_i es clock hbm;obtain ⟨om,hom,hbrm⟩:=H.live bm q (by rw[hbm];simp) hq;rw[hbm] at hbrm;obtain ⟨es',rfl,hmr⟩:=hbrm;split at e
      ·rename_i hcl;have hcl:=Nat.eq_of_beq_eq_true hcl;subst hcl;obtain ⟨p,hp,e⟩:=hX e;obtain ⟨x,k,v,hf,hc,hk,hv⟩:=iW hmr e;refine ⟨_,.tuple #[x.key,x.val],hc,?_,.tup _ _ (.cons _ _ _ _ hk (.cons _ _ _ _ hv .nil))⟩;have hback:(Array.mk seen).back? =some p:=by simpa [Array.back?,List.getLast?_eq_getElem?] using hp
       have hf':es'.find? (·.born==p)=some x:=by rw[←Array.find?_toList];exact hf
       simp only[Instr.entry,getObj,Sem.run_bind,Sem.run,ho,hom,Result.andThen,hback,bne_self_eq_false,Bool.false_eq_true,if_false,hf'];rfl
      ·cases e
     ·cases e
   ·cases e
  ·cases e
 |_=>simp [AaE] at e
theorem gk (H:HR X ρ h w) {t ty kt el:Nat} {x:V} {x':Value} {c:Hp→Bool} (ht:P.underlying t=some (.map kt el)) (hx:VR ρ x x') (e:gn x h c=true):
  ∃h' w',c h'=true∧(Builtin.clear_ #[t] ty #[x']).run P w=.ok (.tuple #[]) w'∧HR X ρ h' w'∧Ext ρ h w ρ h' w':=by
 cases hx with
 |nilm=>exact ⟨h,w,e,by simp [Builtin.clear_,run_underlying ht],H,Ext.refl _ _ _⟩
 |map b r hr=>
  simp only[gn] at e;split at e
  ·rename_i es clock hb;rw[AK] at e;have hbn:blk h b≠.none:=by rw[hb];simp
   obtain ⟨o,ho,hbr⟩:=H.live b r hbn hr;rw[hb] at hbr;obtain ⟨es',rfl,hmr⟩:=hbr;obtain ⟨w',hw',h1,h2,h3,h4⟩:=Gu (P:=P) ho (.map #[] clock);obtain ⟨H',E⟩:=H.turn hbn hr (.map [] clock) _ w' h1 h2 h3 h4 ⟨_,rfl,.nil⟩;refine ⟨_,w',e,?_,H',E⟩;have hg:(getObj r.blk).run P w=.ok (.map es' clock) w:=by simp [getObj,Sem.run,ho]
   simp [Builtin.clear_,run_underlying ht,hg,hw']
  ·cases e
 |_=>simp [gn] at e
end
end Go.AJ
namespace Go.AJ
open Go
variable [BN]
section
variable {P:Program} {X:Cx} {ρ:Ren} {h:Hp} {w:World} {t:T V} {a:Act}
def eM (P:Program) (X:Cx) (ρ:Ren) (h:Hp) (w:World) (c:KV) (s:Sem Next):Prop:=
 ∃v v' ρ' h' w' nx,c v h'=true∧s.run P w=.ok nx w'∧(nx=.value v'∨(nx=.skip∧v'=undef))∧VR ρ' v v'∧HR X ρ' h' w'∧Ext ρ h w ρ' h' w'
theorem Reads.opVal {c:KV} {s:Sem Next} (H:HR X ρ h w) (hr:Reads P ρ h w c s):eM P X ρ h w c s:=by obtain ⟨v,v',h1,h2,h3⟩:=hr;exact ⟨v,v',ρ,h,w,_,h1,h2,.inl rfl,h3,H,Ext.refl _ _ _⟩
theorem Did.opVal {c:KV} {s:Sem Value} (hr:Did X ρ h w c (s.run P w)):eM P X ρ h w c (do pure (.value (←s))):=by obtain ⟨v,v',ρ',h',w',h1,h2,h3,h4,h5⟩:=hr;exact ⟨v,v',ρ',h',w',_,h1,by simp [h2],.inl rfl,h3,h4,h5⟩
theorem DidU.opVal {dst:Option K} {d:Dc} {k:KS} {s:Sem Unit} (hr:DidU X ρ h w (kh dst t d k) (s.run P w)):eM P X ρ h w (kv dst t d k) (do s;pure .skip):=by obtain ⟨h',w',h1,h2,h3,h4⟩:=hr;exact ⟨und,undef,ρ,h',w',_,h1,by simp [h2],.inr ⟨rfl,rfl⟩,.tup [] [] .nil,h3,h4⟩
def zw:AOp→Bool
 |.call .. |.callv .. |.defer .. |.recover|.panic _|.bad=>true
 |_=>false
theorem GW (C:As) {op:AOp} (hs:Cn op=.simple) (dst:Option K) (t:T V) (d:Dc) (h:Hp) (k:KS) (p:KP):Bd C op dst t d h k p=Fu op t h (kv dst t d k):=by cases op<;>first|rfl|cases hs
theorem OQ {T:Ty} {z:List V} {z':Value} (hv:VL ρ z z'.cells.toList) (ho:∀v∈z,v.one=true):∀zl,zP T z=some zl→VL ρ zl z'.cells.toList∧∀v∈zl,v.one=true:=by
 intro zl h;unfold zP at h;split at h
 ·cases h;exact ⟨hv,ho⟩
 ·cases h
theorem ez (hP:POK P X) (H:HR X ρ h w) {b:Builtin} {ts:Array TypeId} {ty:TypeId} {consts:Array Bool} {as:List AJ.X} {args:Array Value} {op:AOp} (hop:Eb X.T b ts.toList as=some op) (hs:¬Cn op=.simple)
  (hargs:VL ρ (evs t as) args.toList) {C:As} {dst:Option K} {d:Dc} {k:KS} {p:KP} (e:Bd C op dst t d h k p=true):eM P X ρ h w (kv dst t d k) (builtin b ts ty consts args):=by
 unfold Eb at hop;split at hop
 ·rename_i t1 t2 s x hts;simp only[evs] at hargs;generalize hl:args.toList=l at hargs;have hts':ts= #[t1,t2]:=by apply Array.ext';simpa using hts
  subst hts';cases hargs with
  |cons _ s' _ _ hs1 hr=>
   cases hr with
   |cons _ x' _ _ hx hr=>
    cases hr;have hargs':args= #[s',x']:=by apply Array.ext';simpa using hl
    subst hargs';unfold builtin;unfold Iz at hop;split at hop
    ·rename_i el d' h1 h2;split at hop
     ·rename_i i z hi hz;obtain ⟨i',z',hi',hz',hv,hlen,hone⟩:=C9 (ρ:=ρ) hP.toTyOK hz;have hi2:=hP.inf _ _ hi;rw[hi2] at hi';cases hi';have hzs:z'.cells.size=i.size:=by have h1:=hv.length;simp only[Array.length_toList] at h1;exact h1.symm.trans hlen
      split at hop
      ·cases hop;exact (gr H (hP.un _ _ h1) (hP.un _ _ h2) hi2 hz' hv hone hlen hs1 hx (OQ hv hone) e).opVal
      ·cases hop;exact (bx H (hP.un _ _ h1) (hP.un _ _ h2) (.inl ⟨_,rfl⟩) hi2 hz' hzs hs1 hx (OQ hv hone) e).opVal
      ·cases hop;exact (bx H (hP.un _ _ h1) (hP.un _ _ h2) (.inr rfl) hi2 hz' hzs hs1 hx (OQ hv hone) e).opVal
      ·cases hop
     ·cases hop
    ·cases hop
 ·unfold Aah at hop;split at hop<;>cases hop<;>exact absurd rfl hs
 ·unfold Aak at hop;split at hop<;>cases hop
  exact absurd rfl hs
 ·cases hop;exact absurd rfl hs
 ·cases hop;exact absurd rfl hs
 ·rename_i t1 t2 s x hts;simp only[evs] at hargs;generalize hl:args.toList=l at hargs;have hts':ts= #[t1,t2]:=by apply Array.ext';simpa using hts
  subst hts';cases hargs with
  |cons _ s' _ _ hs1 hr=>
   cases hr with
   |cons _ x' _ _ hx hr=>
    cases hr;have hargs':args= #[s',x']:=by apply Array.ext';simpa using hl
    subst hargs';unfold builtin;unfold d0 at hop;split at hop
    ·rename_i h1 h2;split at hop
     ·rename_i i hi;cases hop;exact (P0 (d:=.slice 0) H (hP.un _ _ h1) (.inl ⟨0,rfl⟩) (hP.inf _ _ hi) hs1 hx e).opVal
     ·cases hop
    ·rename_i h1 h2;split at hop
     ·rename_i i hi;cases hop;exact (P0 (d:=.string) H (hP.un _ _ h1) (.inr rfl) (hP.inf _ _ hi) hs1 hx e).opVal
     ·cases hop
    ·cases hop
 ·rename_i t1 x hts;simp only[evs] at hargs;generalize hl:args.toList=l at hargs;have hts':ts= #[t1]:=by apply Array.ext';simpa using hts
  subst hts';cases hargs with
  |cons _ x' _ _ hx hr=>
   cases hr;have hargs':args= #[x']:=by apply Array.ext';simpa using hl
   subst hargs';unfold builtin;unfold Aaj at hop;split at hop
   ·rename_i el h1;split at hop
    ·rename_i z hz;cases hop;obtain ⟨i,z',hi,hz',hv,hlen,hone⟩:=C9 (ρ:=ρ) hP.toTyOK hz;obtain ⟨h',w',hk,hrun,H',E⟩:=te (ty:=ty) H (hP.un _ _ h1) hi hz' hv hlen hone hx e;exact ⟨und,.tuple #[],ρ,h',w',_,hk,by simp [hrun],.inl rfl,.tup [] [] .nil,H',E⟩
    ·cases hop
   ·rename_i h1;cases hop;obtain ⟨h',w',hk,hrun,H',E⟩:=gk (ty:=ty) H (hP.un _ _ h1) hx e;exact ⟨und,.tuple #[],ρ,h',w',_,hk,by simp [hrun],.inl rfl,.tup [] [] .nil,H',E⟩
   ·cases hop
 ·cases hop
theorem MT (hP:POK P X) {e:TypeId} (h:Qe X.T e=true):P.underlying e=some (.int .u8):=by
 unfold Qe at h;split at h
 ·rename_i hu;exact hP.un _ _ hu
 ·cases h
theorem eX (hP:POK P X) (H:HR X ρ h w) {o:Oper} {op:AOp} (hop:cOp X.T X.ext o.op=some op) (hE:∀x∈o.op.operands.toList,EvR ρ t a x) {C:As} {dst:Option K} {d:Dc} {k:KS} {p:KP}
  (hc:zw op=false) (e:Bd C op dst t d h k p=true):eM P X ρ h w (kv dst t d k) (execOp a.eval o):=by
 by_cases hs:Cn op=.simple
 ·rw[GW C hs] at e;exact (MA hP H hop hs hE e).opVal H
 unfold execOp;cases ho:o.op with
 |alloc ty=>rw[ho] at hop;simp only[cOp,oB] at hop;obtain ⟨z,hz,rfl⟩:=hop;obtain ⟨i,z',hi,hz',hv,hlen,hone⟩:=C9 (ρ:=ρ) hP.toTyOK hz;exact (bA H hi hz' hv hone e).opVal
 |box ty x=>rw[ho] at hop hE;simp only[cOp,oB] at hop;obtain ⟨x',hx,rfl⟩:=hop;exact (th H (hE x (by simp [Op.operands]) _ hx) ty e).opVal
 |buildSlice ty len ps=>
  rw[ho] at hop hE;simp only[cOp,oB] at hop;obtain ⟨d',hd,hop⟩:=hop;split at hop
  ·rename_i el;simp only[Option.bind_eq_some_iff] at hop;obtain ⟨sz,hsz,z,hz,hop⟩:=hop;split at hop
   ·rename_i hle;simp only[oB] at hop;obtain ⟨ps',hps,rfl⟩:=hop;obtain ⟨i,hi,rfl⟩:=Bs hP.toTyOK hsz;obtain ⟨i',z',hi',hz',hv,hlen,hone⟩:=C9 (ρ:=ρ) hP.toTyOK hz;rw[hi] at hi';cases hi';have hev:∀p∈ps.toList,EvR ρ t a p.2:=fun p hp=>hE p.2 (by simp [Op.operands];exact ⟨p.1,by simpa using hp⟩);have hmap:(ps.map fun p=>(p.1,a.eval p.2)).toList=ps.toList.map fun p=>(p.1,a.eval p.2):=by simp
    exact (fY H (hP.un _ _ hd) hi hz' (by rw[hmap];exact HU _ hps hev) hv hlen hone hle e).opVal
   ·cases hop
  ·cases hop
 |makeMap ty r=>
  rw[ho] at hop;simp only[cOp] at hop;split at hop
  ·cases hop;exact (br (ty:=ty) H e).opVal
  ·cases hop
 |makeSlice ty l cp=>
  rw[ho] at hop hE;simp only[cOp,oB] at hop;obtain ⟨d',hd,hop⟩:=hop;split at hop
  ·simp only[oB] at hop;obtain ⟨i,hi,z,hz,l',hl,cp',hcp,rfl⟩:=hop;obtain ⟨i',z',hi',hz',hv,hlen,hone⟩:=C9 (ρ:=ρ) hP.toTyOK hz;have hi2:=hP.inf _ _ hi;rw[hi2] at hi';cases hi';exact (Ob H (hP.un _ _ hd) hi2 hz' hv hlen hone (hE l (by simp [Op.operands]) _ hl) (hE cp (by simp [Op.operands]) _ hcp) e).opVal
  ·cases hop
 |store ty p1 x=>rw[ho] at hop hE;simp only[cOp,oB] at hop;obtain ⟨a',ha,x',hx,n,hn,rfl⟩:=hop;obtain ⟨i,hi,rfl⟩:=Bs hP.toTyOK hn;exact (bh H hi (hE p1 (by simp [Op.operands]) _ ha) (hE x (by simp [Op.operands]) _ hx) e).opVal
 |mapUpdate ty m k1 x=>
  rw[ho] at hop hE;simp only[cOp,oB] at hop;obtain ⟨d',hd,hop⟩:=hop;split at hop
  ·simp only[oB] at hop;obtain ⟨dk,hdk,q,hq,m',hm,k',hk,x',hx,rfl⟩:=hop;exact (Jp H (hP.un _ _ hd) (hP.un _ _ hdk) hq (hE m (by simp [Op.operands]) _ hm) (hE k1 (by simp [Op.operands]) _ hk) (hE x (by simp [Op.operands]) _ hx) e).opVal
  ·cases hop
 |insert ty m k1 x=>
  rw[ho] at hop hE;simp only[cOp,oB] at hop;obtain ⟨d',hd,hop⟩:=hop;split at hop
  ·simp only[oB] at hop;obtain ⟨dk,hdk,q,hq,m',hm,k',hk,x',hx,rfl⟩:=hop;exact (Jp H (hP.un _ _ hd) (hP.un _ _ hdk) hq (hE m (by simp [Op.operands]) _ hm) (hE k1 (by simp [Op.operands]) _ hk) (hE x (by simp [Op.operands]) _ hx) e).opVal
  ·cases hop
 |slice ty x lo hi mx=>
  rw[ho] at hop;simp only[cOp,oB] at hop;obtain ⟨_,_,_,_,_,_,_,_,_,_,hop⟩:=hop;split at hop
  ·simp only[oB] at hop;obtain ⟨_,_,rfl⟩:=hop;exact absurd rfl hs
  ·split at hop<;>cases hop
   exact absurd rfl hs
  ·simp only[oB] at hop;obtain ⟨_,_,rfl⟩:=hop;exact absurd rfl hs
  ·cases hop
 |range ty x=>
  rw[ho] at hop hE;simp only[cOp,Option.bind_eq_bind,Option.pure_def,Option.bind_eq_some_iff] at hop;obtain ⟨d',hd,x',hx,hop⟩:=hop;split at hop
  ·cases hop;exact (sV H (hP.un _ _ hd) (hE x (by simp [Op.operands]) _ hx) e).opVal
  ·cases hop;exact (fT H (hP.un _ _ hd) (hE x (by simp [Op.operands]) _ hx) e).opVal
  ·cases hop
 |next x str=>
  rw[ho] at hop hE;simp only[cOp] at hop;split at hop
  ·simp only[oB] at hop;obtain ⟨x',hx,rfl⟩:=hop;exact (fV H o.type (hE x (by simp [Op.operands]) _ hx) e).opVal
  ·simp only[oB] at hop;obtain ⟨x',hx,rfl⟩:=hop;exact (sW H o.type (hE x (by simp [Op.operands]) _ hx) e).opVal
 |entry x=>rw[ho] at hop hE;simp only[cOp,oB] at hop;obtain ⟨x',hx,rfl⟩:=hop;exact (Reads.of (td H (hE x (by simp [Op.operands]) _ hx) e)).opVal H
 |typeAssert x xt ty ok=>
  rw[ho] at hop hE;simp only[cOp,oB] at hop;obtain ⟨d',hd,z,hz,x',hx,hop⟩:=hop;obtain ⟨i,z',hi,hz',hv⟩:=Hk (ρ:=ρ) hP.toTyOK hz;split at hop
  ·cases hop
  ·rename_i hni;cases hop;exact (Reads.of (sU (hP.un _ _ hd) hni hi hz' (hE x (by simp [Op.operands]) _ hx) hv e)).opVal H
 |call cl=>
  rw[ho] at hop hE;simp only[cOp] at hop;split at hop
  ·rename_i b hcal;split at hop
   ·cases hop;cases hc
   ·simp only[oB] at hop;obtain ⟨x',hx,rfl⟩:=hop;cases hc
   ·simp only[Option.bind_eq_bind,Option.bind_eq_some_iff] at hop;obtain ⟨as,has,hop⟩:=hop;have hall:=Ik (ρ:=ρ) (t:=t) (a:=a) (fun x hx=>hE x (by simp [Op.operands,Call.operands,hcal];simpa using hx)) has;have hr:=ez (ty:=o.type) (consts:=cl.args.map fun|.const _=>true|_=>false) (args:=cl.args.map a.eval) hP H hop hs (by simpa using hall) e;obtain ⟨v,v',ρ',h',w',nx,g1,g2,g3⟩:=hr;refine ⟨v,v',ρ',h',w',nx,g1,?_,g3⟩;simp only[resolve,hcal,invoke,Sem.run_bind,Sem.run_pure,Result.andThen_ok];exact g2
  ·simp only[Option.bind_eq_bind,Option.pure_def,Option.bind_eq_some_iff] at hop;obtain ⟨as,has,hop⟩:=hop;split at hop
   ·split at hop
    ·split at hop
     ·cases hop;exact absurd rfl hs
     ·cases hop
    ·cases hop;cases hc
   ·cases hop;cases hc
   ·cases hop
  ·cases hop
 |move p0=>rw[ho] at hop;simp only[cOp,oB] at hop;obtain ⟨_,_,rfl⟩:=hop;exact absurd rfl hs
 |assign p0=>rw[ho] at hop;simp only[cOp,oB] at hop;obtain ⟨_,_,rfl⟩:=hop;exact absurd rfl hs
 |pick p0 p1 p2=>rw[ho] at hop;simp only[cOp,oB] at hop;obtain ⟨_,_,_,_,_,_,rfl⟩:=hop;exact absurd rfl hs
 |nilCheck p0=>rw[ho] at hop;simp only[cOp,oB] at hop;obtain ⟨_,_,rfl⟩:=hop;exact absurd rfl hs
 |extract p0 p1=>rw[ho] at hop;simp only[cOp,oB] at hop;obtain ⟨_,_,rfl⟩:=hop;exact absurd rfl hs
 |panic p0=>rw[ho] at hop;simp only[cOp,oB] at hop;obtain ⟨_,_,rfl⟩:=hop;cases hc
 |load p0 p1=>rw[ho] at hop;simp only[cOp,oB] at hop;obtain ⟨_,_,_,_,_,_,hop⟩:=hop;split at hop<;>cases hop<;>exact absurd rfl hs
 |fieldAddr p0 p1 p2=>
  rw[ho] at hop;simp only[cOp,oB] at hop;obtain ⟨_,_,hop⟩:=hop;split at hop
  ·simp only[Option.bind_eq_some_iff] at hop;obtain ⟨_,_,_,_,_,_,hop⟩:=hop;split at hop<;>cases hop
   exact absurd rfl hs
  ·cases hop
 |binOp p0 p1 p2 p3 p4=>
  rw[ho] at hop;simp only[cOp,oB] at hop;obtain ⟨d',_,_,_,_,_,hop⟩:=hop;split at hop
  ·simp only[oB] at hop;obtain ⟨_,_,rfl⟩:=hop;exact absurd rfl hs
  ·simp only[oB] at hop;obtain ⟨_,_,rfl⟩:=hop;exact absurd rfl hs
  ·split at hop
   ·simp only[oB] at hop;obtain ⟨_,_,rfl⟩:=hop;exact absurd rfl hs
   ·simp only[oB] at hop;obtain ⟨_,_,rfl⟩:=hop;exact absurd rfl hs
   ·cases hop
 |build p0 p1=>
  rw[ho] at hop;simp only[cOp,oB] at hop;obtain ⟨_,_,_,_,hop⟩:=hop;split at hop
  ·split at hop
   ·simp only[oB] at hop;obtain ⟨_,_,rfl⟩:=hop;exact absurd rfl hs
   ·cases hop
  ·simp only[oB] at hop;obtain ⟨_,_,_,_,rfl⟩:=hop;exact absurd rfl hs
  ·cases hop
 |unOp p0 p1 p2=>rw[ho] at hop;simp only[cOp,oB] at hop;obtain ⟨_,_,hop⟩:=hop;split at hop<;>cases hop<;>exact absurd rfl hs
 |indexAddr p0 p1 p2=>
  rw[ho] at hop;simp only[cOp,oB] at hop;obtain ⟨_,_,_,_,_,_,hop⟩:=hop;split at hop
  ·simp only[oB] at hop;obtain ⟨_,_,rfl⟩:=hop;exact absurd rfl hs
  ·simp only[oB] at hop;obtain ⟨_,_,rfl⟩:=hop;exact absurd rfl hs
  ·cases hop
 |index p0 p1 p2=>
  rw[ho] at hop;simp only[cOp,oB] at hop;obtain ⟨_,_,_,_,_,_,hop⟩:=hop;split at hop
  ·cases hop;exact absurd rfl hs
  ·simp only[oB] at hop;obtain ⟨_,_,_,_,rfl⟩:=hop;exact absurd rfl hs
  ·cases hop
 |field p0 p1 p2=>
  rw[ho] at hop;simp only[cOp,oB] at hop;obtain ⟨_,_,hop⟩:=hop;split at hop
  ·simp only[oB] at hop;obtain ⟨_,_,_,_,_,_,_,_,rfl⟩:=hop;exact absurd rfl hs
  ·cases hop
 |lookup p0 p1 p2 p3=>
  rw[ho] at hop;simp only[cOp,oB] at hop;obtain ⟨_,_,hop⟩:=hop;split at hop
  ·simp only[oB] at hop;obtain ⟨_,_,_,_,_,_,_,_,_,_,rfl⟩:=hop;exact absurd rfl hs
  ·cases hop
 |makeFunc p0 p1 p2=>
  rw[ho] at hop;cases p0 with
  |func f=>simp only[cOp,oB] at hop;obtain ⟨_,_,_,_,rfl⟩:=hop;exact absurd rfl hs
  |_=>simp [cOp] at hop
 |convert p0 p1 p2=>
  rw[ho] at hop hE;simp only[cOp,oB] at hop;obtain ⟨ds,hds,dd,hdd,x',hx,hop⟩:=hop;have hv:=hE p2 (by simp [Op.operands]) _ hx;unfold d6 at hop;split at hop
  ·cases hop;exact absurd rfl hs
  ·cases hop;exact absurd rfl hs
  ·split at hop
   ·rename_i hb;cases hop;exact (N8 H (hP.un _ _ hds) (hP.un _ _ hdd) (MT hP hb) hv e).opVal
   ·cases hop
  ·split at hop
   ·rename_i hb;cases hop;exact (Reads.of (N9 H (hP.un _ _ hds) (MT hP hb) (hP.un _ _ hdd) hv e)).opVal H
   ·cases hop
  ·cases hop
 |makeInterface p0 p1=>
  rw[ho] at hop;simp only[cOp,oB] at hop;obtain ⟨_,_,_,_,hop⟩:=hop;split at hop<;>cases hop
  exact absurd rfl hs
 |defer cl=>
  rw[ho] at hop;simp only[cOp] at hop;split at hop
  ·simp only[oB] at hop;obtain ⟨_,_,_,_,rfl⟩:=hop;cases hc
  ·cases hop
 |_=>rw[ho] at hop;simp [cOp] at hop
end
end Go.AJ
