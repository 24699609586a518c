/- Data that came in are graphs. -/
import Derived.Test.YtgdbpnpolelfoaaGreatDoorWd
import GoSem.ClaimChange
set_option linter.all false
namespace Go.AJ
open Go
def bulkD {H:Type}:DataW H→Nat
 |.slice es _=>1+bulkDs es
 |.agg ps=>1+bulkDs ps
 |.lit l=>(match l with|.string b=>b.length+1|_=>1)
 |_=>1
where bulkDs {H:Type}:List (DataW H)→Nat
 | []=>0
 |d::r=>bulkD d+bulkDs r
theorem MP {α β:Type} {f:α→Option β}:∀{l:List α} {r:List β},l.mapM f=some r→r.length=l.length∧∀(i:Nat) (x:α),l[i]? =some x→∃y,r[i]? =some y∧f x=some y
 | [],r,h=>by simp at h;subst h;exact ⟨rfl,fun i x h=>by simp at h⟩
 |a::l,r,h=>by
  rw[List.mapM_cons] at h;simp only[Option.bind_eq_bind,Option.bind_eq_some_iff,Option.pure_def,Option.some.injEq] at h;obtain ⟨b,hb,s,hs,rfl⟩:=h;obtain ⟨h1,h2⟩:=MP hs;refine ⟨by simp [h1],fun i x hx=>?_⟩;cases i with
  |zero=>simp at hx;subst hx;exact ⟨b,rfl,hb⟩
  |succ i=>simpa using h2 i x (by simpa using hx)
theorem Ju {β:Type} {f:Nat→Option β} {n:Nat} {r:List β} (h:(List.range n).mapM f=some r):r.length=n∧∀i,i<n→∃y,r[i]? =some y∧f i=some y:=by obtain ⟨h1,h2⟩:=MP h;refine ⟨by simpa using h1,fun i hi=>h2 i i (by simp [hi])⟩
theorem jo {w:World} {base:Nat} {a:Addr} {n:Nat} {cs:List Value} (h:w.cells? base a n=some cs):cs.length=n∧∀j v,cs[j]? =some v→w.cell? (a.add j)=some v:=by
 unfold World.cells? at h;split at h
 ·obtain ⟨h1,h2⟩:=Ju h;refine ⟨h1,fun j v hv=>?_⟩;have hj:j<n:=by rw[←h1];exact (List.getElem?_eq_some_iff.1 hv).1
  obtain ⟨y,hy,hc⟩:=h2 j hj;rw[hy] at hv;cases hv;exact hc
 ·cases h
theorem wN (w:World) (a:Addr) (i j:Nat):w.cell? ((a.add i).add j)=w.cell? (a.add (i+j)):=by
 unfold Addr.add;by_cases hj:j=0
 ·subst hj;simp
 ·by_cases hi:i=0
  ·subst hi;simp
  ·simp [hj,hi,World.cell?,Nat.add_assoc]
theorem Pm [BN] {a:Addr} {m:Nat}:∀(rows:List (List Value)) (i:Nat),(∀k r,rows[k]? =some r→r.length=m∧∀j v,r[j]? =some v→BN.w0.cell? (a.add ((i+k)*m+j))=some v)→
  ∀j v,rows.flatten[j]? =some v→BN.w0.cell? (a.add (i*m+j))=some v
 | [],i,_,j,v,hv=>by simp at hv
 |r::rows,i,h,j,v,hv=>by
  obtain ⟨hl,hr⟩:=h 0 r rfl;rw[List.flatten_cons] at hv;by_cases hj:j<r.length
  ·rw[List.getElem?_append_left hj] at hv;simpa using hr j v hv
  ·rw[List.getElem?_append_right tO,hl] at hv;have:=Pm rows (i+1) (fun k r' hk=>by
    have:=h (k+1) r' (by simpa using hk)
    rwa [show i+(k+1)=i+1+k by omega] at this) (j-m) v hv
   rwa [show (i+1)*m+(j-m)=i*m+j by rw[Nat.succ_mul];omega] at this
end Go.AJ
namespace Go.AJ
open Go
theorem Qb {α β γ:Type} (f:α→β) (g:β→Option γ):∀l:List α,(l.map f).mapM g=l.mapM fun x=>g (f x)
 | []=>rfl
 |x::l=>by rw[List.map_cons,List.mapM_cons,List.mapM_cons,Qb f g l]
theorem JD {β:Type} {Q:Nat→β→Prop}:∀n:Nat,(∀k,k<n→∃y,Q k y)→∃l:List β,l.length=n∧∀(k:Nat) (y:β),l[k]? =some y→Q k y
 |0,_=>⟨[],rfl,fun k y h=>by simp at h⟩
 |n+1,h=>by
  obtain ⟨l,h1,h2⟩:=JD n fun k hk=>h k tO;obtain ⟨y,hy⟩:=h n tO;refine ⟨l++ [y],by simp [h1],fun k z hz=>?_⟩;by_cases hk:k<l.length
  ·rw[List.getElem?_append_left hk] at hz;exact h2 k z hz
  ·rw[List.getElem?_append_right tO] at hz;have hk0:k-l.length=0:=by have:=(List.getElem?_eq_some_iff.1 hz).1;simp at this;omega
   rw[hk0] at hz;simp at hz;subst hz
   rwa [show k=n by omega]
theorem kz {α β:Type} (f:α→Nat) (g:β→Nat):∀(l:List α) (r:List β),l.length=r.length→(∀(k:Nat) x y,l[k]? =some x→r[k]? =some y→f x≤g y)→(l.map f).sum≤(r.map g).sum
 | [],[],_,_=>Nat.le_refl _
 |x::l,y::r,hl,h=>by have h0:=h 0 x y rfl rfl;have h1:=kz f g l r (by simpa using hl) fun k x y hx hy=>h (k+1) x y (by simpa using hx) (by simpa using hy);simp only[List.map_cons,List.sum_cons];omega
 | [],_::_,hl,_=>by simp at hl
 |_::_,[],hl,_=>by simp at hl
theorem eg {H:Type} (l:List (DataW H)):bulkD.bulkDs l=(l.map bulkD).sum:=by
 induction l with
 |nil=>rfl
 |cons d l ih=>simp only[bulkD.bulkDs,ih,List.map_cons,List.sum_cons]
theorem EO {H:Type} (d:DataW H):1≤bulkD d:=by
 cases d with
 |lit l=>cases l<;>simp [bulkD]
 |slice a b=>simp only[bulkD];omega
 |agg l=>simp only[bulkD];omega
 |_=>simp [bulkD]
variable [BN]
theorem VL.flatten {ρ:Ren} {α:Type} (cl:α→List V):∀{l:List α} {rows:List (List Value)},l.length=rows.length→(∀(k:Nat) x r,l[k]? =some x→rows[k]? =some r→VL ρ (cl x) r)→VL ρ (l.map cl).flatten rows.flatten
 | [],[],_,_=> .nil
 |x::l,r::rows,hl,h=>by simp only[List.map_cons,List.flatten_cons];exact (h 0 x r rfl rfl).append (VL.flatten cl (by simpa using hl) fun k x r hx hr=>h (k+1) x r (by simpa using hx) (by simpa using hr))
 | [],_::_,hl,_=>by simp at hl
 |_::_,[],hl,_=>by simp at hl
section
variable {H:Type} {enc:TypeId×Value→H} {P:Program} {sp:Nat→Bool} {held:Bool} {ρ:Ren}
theorem Dg {α:Type} (cl:α→List V) (bk:α→Nat) {t e:TypeId} {m fuel:Nat} {c:Value} {d:DataW H} {ps:List MemPlace} (ht:P.underlying t=some (.slice e)) (hm:P.cellsOf e=m) (ho:∀x,∀v∈cl x,v.one=true)
  (hel:∀cs d ps,DataW.trod enc P BN.w0 0 sp held fuel e cs=some (d,ps)→∃x:α,VL ρ (cl x) cs∧bk x≤bulkD d)
  (h:DataW.trod enc P BN.w0 0 sp held (fuel+1) t [c]=some (d,ps)):∃b cap,∃l:List α,VR ρ (slR b cap (l.map cl).flatten l.length) c∧(l.map bk).sum+1≤bulkD d∧l.length≤cap:=by
 cases c
 case slice base len cap=>
  cases base with
  |none=>
   cases len with
   |zero=>
    cases cap with
    |zero=>simp only[DataW.trod,ht] at h;cases h;exact ⟨true,0,[],by simp only[List.map_nil,List.flatten_nil,List.length_nil,slR,and_self,if_true];exact .nils,by simp [bulkD],Nat.le_refl _⟩
    |succ n=>simp only[DataW.trod,ht] at h;cases h
   |succ n=>simp only[DataW.trod,ht] at h;cases h
  |some a=>
   simp only[DataW.trod,ht,hm] at h;split at h
   ·rename_i hc;simp only[Option.bind_eq_some_iff,Option.map_eq_some_iff] at h;obtain ⟨elems,hel1,rest,hrest,he⟩:=h;cases he;obtain ⟨h1,h2⟩:=Ju hel1;obtain ⟨l,hl1,hl2⟩:=JD (Q:=fun k (y:α×List Value)=>VL ρ (cl y.1) y.2∧(∃z,elems[k]? =some z∧bk y.1≤bulkD z.1)∧y.2.length=m∧∀j v,y.2[j]? =some v→BN.w0.cell? (a.add (k*m+j))=some v) len fun k hk=>by obtain ⟨z,hz,hf⟩:=h2 k hk;simp only[Option.bind_eq_some_iff] at hf;obtain ⟨cs,hcs,htr⟩:=hf;obtain ⟨x,hx1,hx2⟩:=hel cs z.1 z.2 htr;obtain ⟨c1,c2⟩:=jo hcs;exact ⟨(x,cs),hx1,⟨z,hz,hx2⟩,c1,fun j v hv=>by rw[←wN];exact c2 j v hv⟩
    have hrow:Ua a (l.map (·.2)).flatten:=fun j v hv=>by have:=Pm (a:=a) (m:=m) (l.map (·.2)) 0 (fun k r hk=>by rw[List.getElem?_map,Option.map_eq_some_iff] at hk;obtain ⟨y,hy,rfl⟩:=hk;obtain ⟨_,_,h3,h4⟩:=hl2 k y hy;exact ⟨h3,fun j v hv=>by rw[Nat.zero_add];exact h4 j v hv⟩) j v hv;simpa using this
    have hvl:VL ρ ((l.map (·.1)).map cl).flatten (l.map (·.2)).flatten:=by refine VL.flatten cl (by simp) fun k x r hx hr=>?_;rw[List.getElem?_map,Option.map_eq_some_iff] at hx hr;obtain ⟨y,hy,rfl⟩:=hx;obtain ⟨y',hy',rfl⟩:=hr;rw[hy] at hy';cases hy';exact (hl2 k y hy).1
    refine ⟨false,cap,l.map (·.1),?_,?_,by rw[List.length_map,hl1];simp_all⟩
    ·have hl3:(l.map (·.1)).length=len:=by simp [hl1]
     have e:slR false cap ((l.map (·.1)).map cl).flatten (l.map (·.1)).length=.rsl ((l.map (·.1)).map cl).flatten 0 len cap:=by unfold slR;rw[if_neg (by simp),hl3]
     rw[e];have:=VR.rsl (ρ:=ρ) ((l.map (·.1)).map cl).flatten 0 len cap _ a hrow hvl (fun v hv=>by obtain ⟨r,hr,hv⟩:=List.mem_flatten.1 hv;obtain ⟨x,_,rfl⟩:=List.mem_map.1 hr;exact ho x v hv);simpa [Addr.add] using this
    ·simp only[bulkD,eg];have:=kz (fun y:α×List Value=>bk y.1) (fun z:DataW H×List MemPlace=>bulkD z.1) l elems tO fun k y z hy hz=>by obtain ⟨_,⟨z',hz',hb⟩,_⟩:=hl2 k y hy;rw[hz] at hz';cases hz';exact hb
     rw[List.map_map,List.map_map];have e1:(bk∘fun y:α×List Value=>y.1)=fun y=>bk y.1:=rfl;have e2:(bulkD∘fun z:DataW H×List MemPlace=>z.1)=fun z=>bulkD z.1:=rfl;rw[e1,e2];omega
   ·cases h
 all_goals
  simp only[DataW.trod,ht] at h;cases h
end
end Go.AJ
namespace Go.AJ
open Go
variable [BN]
structure GTy (P:Program) (tI tB tS tV tIn tIs tVs tSs tE tEs tG:TypeId):Prop where
 i:P.underlying tI=some (.int .i64)
 b:P.underlying tB=some .bool
 s:P.underlying tS=some .string
 v:∃fs,P.underlying tV=some (.struct fs)∧fs.toList.map (fun f=>(f.type,f.offset))= [(tI,0),(tI,1),(tIn,2),(tS,4),(tVs,5),(tVs,6)]
 n:∃fs,P.underlying tIn=some (.struct fs)∧fs.toList.map (fun f=>(f.type,f.offset))= [(tB,0),(tIs,1)]
 is:P.underlying tIs=some (.slice tI)
 vs:P.underlying tVs=some (.slice tV)
 ss:P.underlying tSs=some (.slice tVs)
 e:∃fs,P.underlying tE=some (.struct fs)∧fs.toList.map (fun f=>(f.type,f.offset))= [(tI,0),(tI,1)]
 es:P.underlying tEs=some (.slice tE)
 g:∃fs,P.underlying tG=some (.struct fs)∧fs.toList.map (fun f=>(f.type,f.offset))= [(tSs,0),(tIs,1),(tEs,2)]
 cI:P.cellsOf tI=1
 cB:P.cellsOf tB=1
 cS:P.cellsOf tS=1
 cV:P.cellsOf tV=7
 cIn:P.cellsOf tIn=2
 cIs:P.cellsOf tIs=1
 cVs:P.cellsOf tVs=1
 cSs:P.cellsOf tSs=1
 cE:P.cellsOf tE=2
 cEs:P.cellsOf tEs=1
 cG:P.cellsOf tG=3
section
variable {H:Type} {enc:TypeId×Value→H} {P:Program} {sp:Nat→Bool} {held:Bool} {ρ:Ren} {fuel:Nat} {d:DataW H} {ps:List MemPlace}
theorem E8 {t:TypeId} (ht:P.underlying t=some (.int .i64)) {c:Value} (h:DataW.trod enc P BN.w0 0 sp held (fuel+1) t [c]=some (d,ps)):∃n,c=.int .i64 n:=by
 cases c
 case int k n=>
  simp only[DataW.trod,ht] at h;split at h
  ·rename_i hk;exact ⟨n,by rw[hk.1]⟩
  ·cases h
 all_goals
  simp only[DataW.trod,ht] at h;cases h
theorem de {t:TypeId} (ht:P.underlying t=some .bool) {c:Value} (h:DataW.trod enc P BN.w0 0 sp held (fuel+1) t [c]=some (d,ps)):∃b,c=.bool b:=by
 cases c
 case bool b=>exact ⟨b,rfl⟩
 all_goals
  simp only[DataW.trod,ht] at h;cases h
theorem i7 {t:TypeId} (ht:P.underlying t=some .string) {c:Value} (h:DataW.trod enc P BN.w0 0 sp held (fuel+1) t [c]=some (d,ps)):∃s,VR ρ (.str s) c∧s.length+1≤bulkD d:=by
 cases c
 case string s=>
  simp only[DataW.trod,ht] at h;split at h
  ·cases h;exact ⟨s.data.toList.map UInt8.toNat,.str _ s rfl,by simp [bulkD]⟩
  ·cases h
 all_goals
  simp only[DataW.trod,ht] at h;cases h
theorem D8 {t:TypeId} {fs:Array Field} {l:List (TypeId×Nat)} (ht:P.underlying t=some (.struct fs)) (hl:fs.toList.map (fun f=>(f.type,f.offset))=l) {cs:List Value} (h:DataW.trod enc P BN.w0 0 sp held (fuel+1) t cs=some (d,ps)):
  cs.length=P.cellsOf t∧∃xs,(l.mapM fun p=>DataW.trod enc P BN.w0 0 sp held fuel p.1 ((cs.drop p.2).take (P.cellsOf p.1)))=some xs∧d=.agg (xs.map (·.1)):=by
 have h':(if cs.length=P.cellsOf t then (fs.toList.mapM fun f=>DataW.trod enc P BN.w0 0 sp held fuel f.type ((cs.drop f.offset).take (P.cellsOf f.type))).map fun xs=>(DataW.agg (xs.map (·.1)),xs.flatMap (·.2)) else none)=some (d,ps):=by
  rw[←h];conv=>rhs;unfold DataW.trod
  rw[ht]
 split at h'
 ·rename_i hc;rw[Option.map_eq_some_iff] at h';obtain ⟨xs,hx,he⟩:=h';cases he;refine ⟨hc,xs,?_,rfl⟩;rw[←hl,Qb];exact hx
 ·cases h'
variable {tI tB tS tV tIn tIs tVs tSs tE tEs tG:TypeId}
theorem Tb (l:List Int):(l.map fun n=> [V.int .i64 n]).flatten=AH l:=by
 induction l with
 |nil=>rfl
 |cons x l ih=>simp only[List.map_cons,List.flatten_cons,ih,AH,List.singleton_append]
theorem Jh (l:List Va):(l.map Va.cells).flatten=AC l:=by
 induction l with
 |nil=>rfl
 |cons x l ih=>simp only[List.map_cons,List.flatten_cons,ih,AC]
theorem Ro (l:List St):(l.map fun s=> [s.cell]).flatten=BZ l:=by
 induction l with
 |nil=>rfl
 |cons x l ih=>simp only[List.map_cons,List.flatten_cons,ih,BZ,List.singleton_append]
theorem Rp (l:List (Int×Int)):(l.map fun e=> [V.int .i64 e.1,V.int .i64 e.2]).flatten=Dq l:=by
 induction l with
 |nil=>rfl
 |cons x l ih=>simp only[List.map_cons,List.flatten_cons,ih,Dq,List.cons_append,List.nil_append]
theorem KM {v:V} (h:flat v=true):v.one=true:=by cases v<;>first|rfl|(simp [flat] at h;done)
theorem F7 (G:GTy P tI tB tS tV tIn tIs tVs tSs tE tEs tG) {c:Value} (h:DataW.trod enc P BN.w0 0 sp held (fuel+1) tIs [c]=some (d,ps)):∃b cap,∃l:List Int,VR ρ (slR b cap (AH l) l.length) c∧l.length+1≤bulkD d:=by
 obtain ⟨b,cap,l,h1,h2, -⟩:=Dg (ρ:=ρ) (fun n:Int=> [V.int .i64 n]) (fun _=>1) G.is G.cI (fun x v hv=>by simp at hv;subst hv;rfl) (fun cs d ps hd=>by
  cases fuel with
  |zero=>cases hd
  |succ f=>
   have:∃c,cs= [c]:=by
    have:cs.length=1:=by
     cases cs with
     |nil=>simp only[DataW.trod,G.i] at hd;cases hd
     |cons a r=>cases r with
      |nil=>rfl
      |cons b r=>simp only[DataW.trod,G.i] at hd;cases hd
    exact List.length_eq_one_iff.1 this
   obtain ⟨c,rfl⟩:=this;obtain ⟨n,rfl⟩:=E8 G.i hd;exact ⟨n,.cons _ _ _ _ (.int _ _) .nil,EO d⟩) h
 rw[Tb] at h1;refine ⟨b,cap,l,h1,?_⟩;have:(l.map fun _=>1).sum=l.length:=by
  clear h1 h2;induction l with
  |nil=>rfl
  |cons x l ih=>simp only[List.map_cons,List.sum_cons,ih,List.length_cons];omega
 omega
theorem Ng (l:List Va):Av l=(l.map Va.bulk).sum:=by
 induction l with
 |nil=>rfl
 |cons x l ih=>rw[Av,ih,List.map_cons,List.sum_cons]
theorem i6 (G:GTy P tI tB tS tV tIn tIs tVs tSs tE tEs tG):∀(f fuel:Nat),fuel≤f→∀(cs:List Value) (d:DataW H) (ps:List MemPlace),DataW.trod enc P BN.w0 0 sp held fuel tV cs=some (d,ps)→∃x:Va,VL ρ x.cells cs∧x.bulk≤bulkD d:=by
 intro f;induction f with
 |zero=>intro fuel hf cs d ps h;obtain rfl:fuel=0:=tO;cases h
 |succ f ih=>
  intro fuel hf cs d ps h;cases fuel with
  |zero=>cases h
  |succ fuel=>
   obtain ⟨fs,hfs,hmap⟩:=G.v;obtain ⟨hlen,xs,hx,rfl⟩:=D8 hfs hmap h;rw[G.cV] at hlen;obtain ⟨c0,c1,c2,c3,c4,c5,c6,rfl⟩:∃c0 c1 c2 c3 c4 c5 c6,cs= [c0,c1,c2,c3,c4,c5,c6]:=by
    match cs,hlen with
    | [c0,c1,c2,c3,c4,c5,c6],_=>exact ⟨c0,c1,c2,c3,c4,c5,c6,rfl⟩
   simp only[List.mapM_cons,List.mapM_nil,G.cI,G.cIn,G.cS,G.cVs,List.drop_zero,List.drop_succ_cons,List.take_succ_cons,List.take_zero,Option.bind_eq_bind,Option.bind_eq_some_iff,Option.pure_def,Option.some.injEq] at hx;obtain ⟨x0,h0,y1,⟨x1,h1,y2,⟨x2,h2,y3,⟨x3,h3,y4,⟨x4,h4,y5,⟨x5,h5,y6,rfl,rfl⟩,rfl⟩,rfl⟩,rfl⟩,rfl⟩,rfl⟩:=hx;cases fuel with
   |zero=>cases h0
   |succ fuel=>
    obtain ⟨k,rfl⟩:=E8 (d:=x0.1) (ps:=x0.2) G.i h0;obtain ⟨n,rfl⟩:=E8 (d:=x1.1) (ps:=x1.2) G.i h1;obtain ⟨s,hs,hsb⟩:=i7 (ρ:=ρ) (d:=x3.1) (ps:=x3.2) G.s h3;have hval:∀cs d ps,DataW.trod enc P BN.w0 0 sp held fuel tV cs=some (d,ps)→∃x:Va,VL ρ x.cells cs∧x.bulk≤bulkD d:=fun cs d ps h=>ih fuel tO cs d ps h;have hone:∀x:Va,∀v∈x.cells,v.one=true:=fun x v hv=>KM (x.cells_flat v hv);obtain ⟨lb,lc,l,hl,hlb, -⟩:=Dg (ρ:=ρ) Va.cells Va.bulk (d:=x4.1) (ps:=x4.2) G.vs G.cV hone hval h4;obtain ⟨mb,mc,m,hm,hmb, -⟩:=Dg (ρ:=ρ) Va.cells Va.bulk (d:=x5.1) (ps:=x5.2) G.vs G.cV hone hval h5;rw[Jh] at hl hm;rw[←Ng] at hlb hmb;obtain ⟨fn,hfn,hmapn⟩:=G.n;obtain ⟨_,zs,hz,hd2⟩:=D8 (d:=x2.1) (ps:=x2.2) hfn hmapn h2;simp only[List.mapM_cons,List.mapM_nil,G.cB,G.cIs,List.drop_zero,List.drop_succ_cons,List.take_succ_cons,List.take_zero,Option.bind_eq_bind,Option.bind_eq_some_iff,Option.pure_def,Option.some.injEq] at hz;obtain ⟨z0,g0,w1,⟨z1,g1,w2,rfl,rfl⟩,rfl⟩:=hz;cases fuel with
    |zero=>cases g0
    |succ fuel=>
     obtain ⟨neg,rfl⟩:=de (d:=z0.1) (ps:=z0.2) G.b g0;obtain ⟨db,dc,dd,hd,hdb⟩:=F7 (ρ:=ρ) (d:=z1.1) (ps:=z1.2) G g1;refine ⟨.mk k n neg db dc dd s lb lc l mb mc m,?_,?_⟩
     ·rw[Va.cells];exact .cons _ _ _ _ (.int _ _) (.cons _ _ _ _ (.int _ _) (.cons _ _ _ _ (.bool _) (.cons _ _ _ _ hd (.cons _ _ _ _ hs (.cons _ _ _ _ hl (.cons _ _ _ _ hm .nil))))))
     ·rw[Va.bulk];have b0:=EO x0.1;have b1:=EO x1.1;have bz:=EO z0.1;simp only[bulkD,bulkD.bulkDs,hd2,List.map_cons,List.map_nil];omega
theorem Uv (l:List St):(l.map fun s=>Av s.l+1).sum=l.length+BH l:=by
 induction l with
 |nil=>rfl
 |cons x l ih=>simp only[List.map_cons,List.sum_cons,ih,BH,List.length_cons];omega
theorem JF (G:GTy P tI tB tS tV tIn tIs tVs tSs tE tEs tG) {cs:List Value} (h:DataW.trod enc P BN.w0 0 sp held fuel tG cs=some (d,ps)):∃g:Gr,VL ρ g.cells cs∧g.bulk≤bulkD d∧g.states.length≤g.sc:=by
 cases fuel with
 |zero=>cases h
 |succ fuel=>
  obtain ⟨fs,hfs,hmap⟩:=G.g;obtain ⟨hlen,xs,hx,rfl⟩:=D8 hfs hmap h;rw[G.cG] at hlen;obtain ⟨c0,c1,c2,rfl⟩:∃c0 c1 c2,cs= [c0,c1,c2]:=by
   match cs,hlen with
   | [c0,c1,c2],_=>exact ⟨c0,c1,c2,rfl⟩
  simp only[List.mapM_cons,List.mapM_nil,G.cSs,G.cIs,G.cEs,List.drop_zero,List.drop_succ_cons,List.take_succ_cons,List.take_zero,Option.bind_eq_bind,Option.bind_eq_some_iff,Option.pure_def,Option.some.injEq] at hx;obtain ⟨x0,h0,y1,⟨x1,h1,y2,⟨x2,h2,y3,rfl,rfl⟩,rfl⟩,rfl⟩:=hx;cases fuel with
  |zero=>cases h0
  |succ fuel=>
   have hone:∀x:Va,∀v∈x.cells,v.one=true:=fun x v hv=>KM (x.cells_flat v hv);obtain ⟨sb,sc,l,hl,hlb,hsc⟩:=Dg (ρ:=ρ) (fun s:St=> [s.cell]) (fun s=>Av s.l+1) (d:=x0.1) (ps:=x0.2) G.ss G.cVs (fun x v hv=>by simp at hv;subst hv;exact KM CS) (fun cs d ps hd=>by
    cases fuel with
    |zero=>cases hd
    |succ f=>
     have:∃c,cs= [c]:=by
      have:cs.length=1:=by
       cases cs with
       |nil=>simp only[DataW.trod,G.vs] at hd;cases hd
       |cons a r=>cases r with
        |nil=>rfl
        |cons b r=>simp only[DataW.trod,G.vs] at hd;cases hd
      exact List.length_eq_one_iff.1 this
     obtain ⟨c,rfl⟩:=this;obtain ⟨b,cap,m,hm,hmb, -⟩:=Dg (ρ:=ρ) Va.cells Va.bulk (d:=d) (ps:=ps) G.vs G.cV hone (fun cs d ps h=>i6 G f f (Nat.le_refl f) cs d ps h) hd;rw[Jh] at hm;rw[←Ng] at hmb;exact ⟨⟨b,cap,m⟩,.cons _ _ _ _ hm .nil,hmb⟩) h0
   obtain ⟨ib,ic,il,hil,hib⟩:=F7 (ρ:=ρ) (d:=x1.1) (ps:=x1.2) G h1;obtain ⟨eb,ec,el,hel,heb, -⟩:=Dg (ρ:=ρ) (fun e:Int×Int=> [V.int .i64 e.1,V.int .i64 e.2]) (fun _=>2) (d:=x2.1) (ps:=x2.2) G.es G.cE (fun x v hv=>by simp at hv;rcases hv with rfl|rfl<;>rfl) (fun cs d ps hd=>by
    cases fuel with
    |zero=>cases hd
    |succ f=>
     obtain ⟨fe,hfe,hmape⟩:=G.e;obtain ⟨hlen,zs,hz,rfl⟩:=D8 hfe hmape hd;rw[G.cE] at hlen;obtain ⟨c0,c1,rfl⟩:∃c0 c1,cs= [c0,c1]:=by
      match cs,hlen with
      | [c0,c1],_=>exact ⟨c0,c1,rfl⟩
     simp only[List.mapM_cons,List.mapM_nil,G.cI,List.drop_zero,List.drop_succ_cons,List.take_succ_cons,List.take_zero,Option.bind_eq_bind,Option.bind_eq_some_iff,Option.pure_def,Option.some.injEq] at hz;obtain ⟨z0,g0,w1,⟨z1,g1,w2,rfl,rfl⟩,rfl⟩:=hz;cases f with
     |zero=>cases g0
     |succ f=>obtain ⟨a,rfl⟩:=E8 (d:=z0.1) (ps:=z0.2) G.i g0;obtain ⟨b,rfl⟩:=E8 (d:=z1.1) (ps:=z1.2) G.i g1;have b0:=EO z0.1;exact ⟨(a,b),.cons _ _ _ _ (.int _ _) (.cons _ _ _ _ (.int _ _) .nil),by simp only[bulkD,bulkD.bulkDs,List.map_cons,List.map_nil];omega⟩) h2
   rw[Ro] at hl;rw[Uv] at hlb;rw[Rp] at hel;refine ⟨⟨sb,sc,l,ib,ic,il,eb,ec,el⟩,?_,?_,hsc⟩
   ·exact .cons _ _ _ _ hl (.cons _ _ _ _ hil (.cons _ _ _ _ hel .nil))
   ·have:(el.map fun _:Int×Int=>2).sum=2*el.length:=by
     clear hel heb;induction el with
     |nil=>rfl
     |cons x l ih=>simp only[List.map_cons,List.sum_cons,ih,List.length_cons];omega
    simp only[Gr.bulk,bulkD,bulkD.bulkDs,List.map_cons,List.map_nil];omega
end
end Go.AJ
