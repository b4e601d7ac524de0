/- A part of the proof for HistoryBack: F32 to F63. Printed from longer texts. -/
import Derived.Test.YtcpkpdmejlfemaaGreatDoorD
import Derived.Shelf.SlSortCmp.NoneTotal
set_option linter.all false
set_option maxHeartbeats 64000000
open And renaming intro→aGv
open Array renaming eq_empty_of_size_eq_zero→Ud,getElem?_append→F7,getElem?_append_left→yc,getElem?_eq_getElem→av,getElem?_eq_some_iff→j4,getElem?_extract→Yr,getElem?_modify→Bi,getElem_toList→a6g,length_toList→rh,size_append→T7
open Bool renaming and_eq_true→cd,and_false→o9,and_self→aFb,and_true→F9,eq_iff_iff→Q4,false_and→cz,false_eq_true→ec,not_eq_true'→wg,not_false→Ji,not_true→aAt,or_eq_false_iff→P6,or_eq_true→Zk,or_false→Sq,or_true→aF0,true_and→qu,true_or→Jh
open Go.Proofs renaming sortWorld→Yp
open Go.Proofs.SlLaysF renaming n6→aGl
open Go.Shelf renaming Ren→aG3
open Go.Sort renaming grow→aG2,mapBlock→a6e,putCells→B6
open Go.World renaming cell?→aG5
open Int renaming add_zero→ahz,le_of_lt→aE2,le_of_mul_le_mul_right→a36,le_total→aEx,lt_or_gt_of_ne→ahy,lt_or_le→My,lt_trichotomy→aB0,mul_comm→xv,mul_eq_zero→Ao,mul_le_mul_of_nonneg_left→W2,mul_neg→aGj,mul_neg_of_neg_of_pos→a6c,mul_nonneg→a9b,mul_nonneg_of_nonpos_of_nonpos→Bh,mul_nonpos_of_nonneg_of_nonpos→Gq,mul_pos→Gr,mul_pos_of_neg_of_neg→a6b,mul_zero→aFl,natCast_add→jz,natCast_nonneg→aj,neg_mul→aGi,nonneg_of_mul_nonneg_left→au7,nonneg_of_mul_nonneg_right→aq9,reduceBNe→je,reduceLE→df,reduceLT→bx,reduceNeg→bc,reduceToNat→da,zero_mul→ahx
open List renaming all_cons→Sl,all_eq_false→Zj,all_eq_true→ck,all_nil→aEw,any_eq_false→aq2,any_eq_true→Dh,append_assoc→we,append_nil→th,drop→aGs,drop_eq_getElem_cons→gd,drop_eq_nil_of_le→Gp,drop_length→Ma,drop_zero→a9a,eq_nil_of_length_eq_zero→jb,eraseIdx_eq_take_drop_succ→oz,exists_cons_of_ne_nil→axr,ext_getElem→ahv,ext_getElem?→a99,filterMap_some→aF7,filter_append→axq,filter_cons→a69,flatMap_cons→aAz,flatten_append→aF5,flatten_cons→aq1,flatten_nil→aE1,foldl_append→pw,foldl_cons→ya,foldl_nil→aE0,getD→bn,getD_cons_zero→av1,getD_eq_getElem?_getD→yb,getElem?_append_left→jr,getElem?_append_right→jy,getElem?_cons_zero→ff,getElem?_drop→lv,getElem?_eq_getElem→ao,getElem?_eq_some_iff→aq,getElem?_map→bp,getElem?_set→pv,getElem_map→ahu,getElem_mem→bz,getElem_take→aAy,length→Cq,length_append→cb,length_cons→bq,length_drop→qn,length_eraseIdx_of_lt→axp,length_filter_le→Im,length_map→ae,length_nil→dh,length_pos_iff→acv,length_replicate→aEk,length_set→Fx,length_take→dd,map_append→fb,map_congr_left→Mv,map_cons→cu,map_drop→av0,map_eq_nil_iff→dg,map_id→aGh,map_map→aEt,map_nil→ez,map_set→aG9,map_take→J7,mem_append→oo,mem_append_right→a2y,mem_cons→dn,mem_cons_of_mem→aq7,mem_filter→Kp,mem_flatMap→M9,mem_iff_getElem→fj,mem_map→jc,mem_of_getElem?→lx,mem_of_mem_take→aq6,mem_range→du,mem_singleton→Ua,nil_append→An,nodup_append→a98,nodup_iff_pairwise_ne→axo,not_mem_nil→jg,pairwise_iff_getElem→Rm,range→cq,reduceReplicate→ca,replicate→gu,reverse_cons→qm,reverse_reverse→Cp,set_append_right→a2x,sum_append→aEr,sum_cons→aFz,take→aGu,take_add_one→ey,take_append_drop→Mf,take_left'→aEq,take_length→eo,take_of_length_le→Ab,take_zero→F8
open List.cons renaming injEq→a6a
open Nat renaming add_assoc→p8,add_left_cancel_iff→dw,add_zero→xu,le_of_lt→aFy,le_refl→ar,le_trans→gn,lt_or_ge→a00,lt_succ_iff_lt_or_eq→T4,min_eq_left→ag5,mod_eq_of_lt→a63,mod_lt→a30,not_lt_zero→aAp,reduceAdd→ab,reduceEqDiff→aa,reduceLeDiff→ag,reduceMul→de,reducePow→Mt,sub_self→Ms,sub_zero→S8,zero_add→eh,zero_le→aFr
open Option renaming getD_some→j3,isSome→ax,map_eq_some_iff→ak,map_some→gz
open Option.some renaming inj→aAo,injEq→ah
open Prod renaming ext→Jg
namespace Go.PI
def Rf(x y:Int):Int:=if x<y then-1 else if y<x then 1 else 0
def yg{α:Type}(f:α→α→Int):List α→List α→Int
 |[],[]=>0
 |[],_::_=> -1
 |_::_,[]=>1
 |a::r,b::t=>if f a b=0 then yg f r t else f a b
def Re(a b:Sp):Int:=yg Rf [a.1,a.2] [b.1,b.2]
def Jv:List Sp→List Sp→Int:=yg Re
theorem a2h{α:Type}(f:α→α→Int)(l1 l2:List α)(i:Nat)(h1:i<l1.length)(h2:i<l2.length)(h:f l1[i] l2[i]=0):yg f (l1.drop i) (l2.drop i)=yg f (l1.drop (i+1)) (l2.drop (i+1)):=by
 rw[gd h1,gd h2];simp only[yg,h,if_true]
theorem ach{α:Type}(f:α→α→Int)(l1 l2:List α)(i:Nat)(h1:i<l1.length)(h2:i<l2.length)(h:f l1[i] l2[i]≠0):yg f (l1.drop i) (l2.drop i)=f l1[i] l2[i]:=by
 rw[gd h1,gd h2];simp only[yg,if_neg h]
theorem aci{α:Type}(f:α→α→Int)(l1 l2:List α)(i:Nat)(h1:i<l1.length)(h2:l2.length≤i):yg f (l1.drop i) (l2.drop i)=1:=by
 rw[gd h1,Gp h2];rfl
theorem a5v{α:Type}(f:α→α→Int)(l1 l2:List α):yg f (l1.drop l1.length) (l2.drop l1.length)=if l1.length<l2.length then-1 else 0:=by
 rw[Ma];split
 ·rename_i h;rw[gd h];rfl
 ·rename_i h;rw[Gp (by omega)];rfl
section
variable{P:Program}(A:Pr3 P)
theorem agm(n:Int):fp P A.uz [.int .i64 n] (.bool false):=by
 refine cy A.mo A.Vi (by simp) ?_
 show jd P Hh (kf _ _) _;simp only[Hh,go_sem,aa,reduceCtorEq,bne_self_eq_false]
theorem adr(x y:Int):fp P A.vn [.int .i64 x,.int .i64 y] (.int .i64 (Rf x y)):=by
 refine cy A.mo A.Si (by simp) ?_
 show jd P (F3 A.uz) (kf _ _) _;simp only[F3,go_sem,aa,bc,reduceCtorEq];refine ee (agm A x) ?_;simp only[go_sem,aa,bc];refine ee (agm A y) ?_;unfold Rf;by_cases h1:x<y
 ·simp only[go_sem,aa,bc,reduceCtorEq,h1]
 ·by_cases h2:y<x
  ·simp only[go_sem,aa,bc,reduceCtorEq,h1,h2]
  ·simp only[go_sem,aa,bc,reduceCtorEq,h1,h2]
theorem aa6(l1 l2:List Int)(hl1:l1.length≤2^50)(hl2:l2.length≤2^50):fp P A.re [.dt 1 (l1.map Bj),.dt 1 (l2.map Bj)] (.int .i64 (yg Rf l1 l2)):=by
 refine cy A.mo A.Pn (by simp) ?_
 show jd P (Cc A.vn) (kf _ _) _;simp only[Cc,go_sem,aa,bc,reduceCtorEq]
 refine rv (fun s'=>s'.tmp 0= .d (.dt 1 (l1.map Bj))∧s'.tmp 1= .d (.dt 1 (l2.map Bj))∧yg Rf l1 l2=if l1.length<l2.length then-1 else 0) ?_ ?_
 ·refine dq l1.length (fun i s'=>s'.tmp 0= .d (.dt 1 (l1.map Bj))∧s'.tmp 1= .d (.dt 1 (l2.map Bj))∧s'.tmp 9= .d (.dt 1 (l1.map Bj))∧s'.tmp 10= .d (.int .i64 l1.length)∧s'.tmp 11= .d (.int .i64 i)∧
   yg Rf l1 l2=yg Rf (l1.drop i) (l2.drop i)) ?_ ?_
  ·simp only[go_sem,aa,reduceCtorEq,ae]
  ·rintro i s' hi ⟨f0,f1,f9,f10,f11,hI⟩
   by_cases iy:(i:Int)<l1.length
   ·have cj:i<l1.length:=by omega
    have wi:=br ((i:Int)+1) (by omega) (by omega)
    have g1:(l1.map Bj)[i]? =some [.int .i64 l1[i]]:=by simp[cj,Bj]
    by_cases h2:(l2.length:Int)≤i
    ·rw[aci Rf l1 l2 i cj (by omega)]at hI
     simp only[go_sem,aa,bc,reduceCtorEq,f1,f9,f10,f11,iy,g1,toNat_cast,aj,ae,h2,hI]
    ·have h2':i<l2.length:=by omega
     have g2:(l2.map Bj)[i]? =some [.int .i64 l2[i]]:=by simp[h2',Bj]
     simp only[go_sem,aa,bc,reduceCtorEq,f1,f9,f10,f11,iy,g1,g2,toNat_cast,aj,ae,h2];refine gf (adr A _ _) ?_;by_cases h3:Rf l1[i] l2[i]=0
     ·rw[a2h Rf l1 l2 i cj h2' h3]at hI
      simp only[go_sem,aa,je,bc,reduceCtorEq,f0,f1,f9,f10,f11,h3,wi,cj]
      exact⟨by simp,hI⟩
     ·rw[ach Rf l1 l2 i cj h2' h3]at hI
      have h3':(Rf l1[i] l2[i] !=0)=true:=by simpa using h3
      simp only[go_sem,aa,bc,reduceCtorEq,h3',hI]
   ·have:i=l1.length:=by omega
    subst this;rw[a5v]at hI;simp only[go_sem,aa,bc,reduceCtorEq,f0,f1,f10,f11,iy];exact hI
 ·rintro s' ⟨f0,f1,hI⟩
  by_cases h:(l1.length:Int)<l2.length
  ·have h':l1.length<l2.length:=by omega
   simp only[go_sem,aa,bc,reduceCtorEq,f0,f1,ae,h,hI,h']
  ·have h':¬l1.length<l2.length:=by omega
   simp only[go_sem,aa,bc,reduceCtorEq,f0,f1,ae,h,hI,h']
theorem aqy(a b:Sp):fp P A.qx [vt a,vt b] (.int .i64 (Re a b)):=by
 refine cy A.mo A.a3x (by simp) ?_
 show jd P (Ng A.re) (kf _ _) _;simp only[Ng,vt,go_sem,aa,de,ab]
 refine iv (ds:=[.dt 1 ([a.1,a.2].map Bj),.dt 1 ([b.1,b.2].map Bj)]) ?_ (aa6 A _ _ (by simp) (by simp)) rfl ?_
 ·simp only[go_sem,aa,de,ab,iz,mc,Bj,Nat.reduceLT]
 ·simp only[go_sem,aa]
  rfl
theorem Sv(l1 l2:List Sp)(hl1:l1.length≤2^50)(hl2:l2.length≤2^50):fp P A.gp [se l1,se l2,.mb A.qx []] (.int .i64 (Jv l1 l2)):=by
 refine cy A.mo A.Ge (by simp) ?_
 show jd P (tn) (kf _ _) _;simp only[tn,se,Jv,go_sem,aa,bc,reduceCtorEq]
 refine rv (fun s'=>s'.tmp 0= .d (.dt 2 (l1.map zm))∧s'.tmp 1= .d (.dt 2 (l2.map zm))∧yg Re l1 l2=if l1.length<l2.length then-1 else 0) ?_ ?_
 ·refine dq l1.length (fun i s'=>s'.base=0∧s'.tmp 0= .d (.dt 2 (l1.map zm))∧s'.tmp 1= .d (.dt 2 (l2.map zm))∧s'.tmp 2= .d (.mb A.qx [])∧s'.tmp 11= .d (.dt 2 (l1.map zm))∧s'.tmp 12= .d (.int .i64 l1.length)∧s'.tmp 13= .d (.int .i64 i)∧
   yg Re l1 l2=yg Re (l1.drop i) (l2.drop i)) ?_ ?_
  ·simp only[go_sem,aa,reduceCtorEq,ae]
  ·rintro i s' hi ⟨eb,f0,f1,f2,f11,f12,f13,hI⟩
   by_cases iy:(i:Int)<l1.length
   ·have cj:i<l1.length:=by omega
    have wi:=br ((i:Int)+1) (by omega) (by omega)
    have g1:=Bm cj
    have e1:l1.getD i (0,0)=l1[i]:=by simp[bn,cj]
    rw[e1]at g1;by_cases h2:(l2.length:Int)≤i
    ·rw[aci Re l1 l2 i cj (by omega)]at hI
     simp only[go_sem,aa,bc,ab,reduceCtorEq,eb,f1,f11,f12,f13,iy,g1,toNat_cast,aj,ae,h2,hI]
    ·have h2':i<l2.length:=by omega
     have g2:=Bm h2'
     have e2:l2.getD i (0,0)=l2[i]:=by simp[bn,h2']
     rw[e2]at g2;simp only[go_sem,aa,bc,ab,reduceCtorEq,eb,f1,f2,f11,f12,f13,iy,g1,g2,toNat_cast,aj,ae,h2];refine Ly (aqy A _ _) ?_;by_cases h3:Re l1[i] l2[i]=0
     ·rw[a2h Re l1 l2 i cj h2' h3]at hI
      simp only[go_sem,aa,je,bc,reduceCtorEq,f0,f1,f2,f11,f12,f13,h3,wi,cj]
      exact⟨by simp,hI⟩
     ·rw[ach Re l1 l2 i cj h2' h3]at hI
      have h3':(Re l1[i] l2[i] !=0)=true:=by simpa using h3
      simp only[go_sem,aa,bc,reduceCtorEq,h3',hI]
   ·have:i=l1.length:=by omega
    subst this;rw[a5v]at hI;simp only[go_sem,aa,bc,reduceCtorEq,f0,f1,f12,f13,iy];exact hI
 ·rintro s' ⟨f0,f1,hI⟩
  by_cases h:(l1.length:Int)<l2.length
  ·have h':l1.length<l2.length:=by omega
   simp only[go_sem,aa,bc,reduceCtorEq,f0,f1,ae,h,hI,h']
  ·have h':¬l1.length<l2.length:=by omega
   simp only[go_sem,aa,bc,reduceCtorEq,f0,f1,ae,h,hI,h']
end
theorem ark{m:Mem}{id v v':Nat}{b b':B}:(m.put id v b).put id v' b'=m.put id v' b':=by
 simp only[Mem.put,Mem.mk.injEq,and_true]
 exact⟨by funext j;simp only[al];split<;>rfl,by funext j;simp only[al];split<;>rfl⟩
section
variable{P:Program}(A:Pr3 P)
theorem avl(n:Nat)(hn:0<n)(hb:n≤2^30)(m:Mem)(b:Nat):nj P A.oq m [.d .bd,.d (.int .i64 n)] (m.put (b+22) (m.ver (b+22)+2) (.arr 2 [])) (.ref (b+22) (m.ver (b+22)+2) 0):=by
 refine jt A.mo A.Lu (by simp) b (fun c=>?_) (Mem.Ja (by omega)) Mem.Nq (fun i es hi=> .inl hi) (by simp[F5,Mem.put,bh])
 show jd P (zp) (u0 m [.tmp 4] _ _) _
 have h0:¬((n:Int)<0):=by omega
 have h1:(0:Int)<n:=by omega
 have w0:=br ((n:Int)-0) (by omega) (by omega)
 have w1:=br (0:Int) (by omega) (by omega)
 have hz:(n:Int)-0=n:=by omega
 rw[hz]at w0
 have hbb:(n:Int)*16≤2^47:=by omega
 have hz2:(n:Int)*((16:Nat):Int)≤2^47:=hbb;simp only[zp,enter,go_sem,aa,ab,reduceCtorEq,h0,h1,w0,w1,Int.sub_zero,hbb,toNat_cast,aEk,aj,nh,qa,p8];intro j;simp only[Mem.put,PS.mem,al];by_cases h:j=b+22
 ·subst h;simp
 ·simp[h]
theorem Vm{ls:List (List Sp)}{i:Nat}(h:i<ls.length):(ls.take (i+1)).flatten=(ls.take i).flatten++ls[i]:=by
 rw[ey,aF5];simp[h]
theorem amg(ls:List (List Sp))(kg:ls.flatten≠[])(h1:ls.length≤2^30)(h2:ls.flatten.length≤2^30):fp P A.nn [jv ls] (se ls.flatten):=by
 refine cy A.mo A.Kl (by simp) ?_
 show jd P (xx A.oq) (kf _ _) _;have Yx:0<ls.flatten.length:=acv.2 kg
 have tk:∀i,(ls.take i).flatten.length≤ls.flatten.length:=fun i=>by
  have:=congrArg Cq (congrArg List.flatten (Mf i ls));rw[aF5,cb]at this;omega
 simp only[xx,jv,se,go_sem,aa,reduceCtorEq]
 refine rv (fun s'=>s'.base=0∧s'.tmp 0= .d (.dt 1 (ls.map fun l=>[se l]))∧s'.tmp 3= .d (.int .i64 ls.flatten.length)) ?_ ?_
 ·refine dq ls.length (fun i s'=>s'.base=0∧s'.tmp 0= .d (.dt 1 (ls.map fun l=>[se l]))∧s'.tmp 3= .d (.int .i64 (ls.take i).flatten.length)∧s'.tmp 9= .d (.dt 1 (ls.map fun l=>[se l]))∧s'.tmp 10= .d (.int .i64 ls.length)∧s'.tmp 11= .d (.int .i64 i)) ?_ ?_
  ·simp only[go_sem,aa,reduceCtorEq,ae]
   rfl
  ·rintro i s' hi ⟨eb,f0,f3,f9,f10,f11⟩
   by_cases iy:(i:Int)<ls.length
   ·have cj:i<ls.length:=by omega
    have wi:=br ((i:Int)+1) (by omega) (by omega)
    have hg:=Cf cj;have hft:=Vm cj;have hl:=tk (i+1);rw[hft,cb]at hl
    have ws:=br (((ls.take i).flatten.length:Int)+ls[i].length) (by omega) (by omega)
    have hn:¬(((ls.take i).flatten.length:Int)+ls[i].length<0):=by omega
    simp only[go_sem,aa,reduceCtorEq,eb,f0,f3,f9,f10,f11,iy,hg,toNat_cast,aj,ae,ws,hn,wi,cj,hft,cb];simp
   ·have:i=ls.length:=by omega
    subst this;rw[eo]at f3;simp only[go_sem,aa,reduceCtorEq,eb,f0,f3,f10,f11,iy]
 ·rintro s' ⟨eb,f0,f3⟩
  simp only[go_sem,eb,f3];refine iu (avl A ls.flatten.length Yx h2 _ 1000) ?_;simp only[go_sem,aa,ab,reduceCtorEq,PS.gl,f0]
  refine rv (fun s'=>s'.base=0∧s'.tmp 6= .ref 1022 (s'.ver 1022) ls.flatten.length∧s'.bm 1022=some (.arr 2 (ls.flatten.map zm))) ?_ ?_
  ·refine dq ls.length (fun i s'=>s'.base=0∧s'.tmp 6= .ref 1022 (s'.ver 1022) (ls.take i).flatten.length∧s'.bm 1022=some (.arr 2 ((ls.take i).flatten.map zm))∧s'.tmp 25= .d (.dt 1 (ls.map fun l=>[se l]))∧s'.tmp 26= .d (.int .i64 ls.length)∧s'.tmp 27= .d (.int .i64 i)) ?_ ?_
   ·simp only[go_sem,aa,ae,Mem.put,PS.mem]
   ·clear eb f0 f3
    rintro i s' hi ⟨eb,f6,b6,f25,f26,f27⟩;by_cases iy:(i:Int)<ls.length
    ·have cj:i<ls.length:=by omega
     have wi:=br ((i:Int)+1) (by omega) (by omega)
     have hg:=Cf cj;have hft:=Vm cj;have hl:=tk (i+1);rw[hft,cb]at hl
     have Ac:((ls[i].map zm).all fun e=>e.all D.one)=true:=by
      rw[ck];intro e he;obtain⟨p,_,rfl⟩:=jc.1 he;rfl
     have C3:((ls.take i).flatten.length+ls[i].length)*16≤2^47:=by omega
     simp only[go_sem,aa,reduceCtorEq,Ex,ov,eb,f6,b6,f25,f26,f27,iy,hg,toNat_cast,aj,ae,Ac,C3,wi,cj,hft,cb,fb];simp
    ·have:i=ls.length:=by omega
     subst this;rw[eo]at f6 b6;simp only[go_sem,aa,reduceCtorEq,eb,f6,b6,f26,f27,iy]
  ·clear eb f0 f3
   rintro s' ⟨eb,f6,b6⟩;simp only[go_sem,aa,eb,f6,b6,ae]
end
def S3(O I:Adj)(s:Sp):Bool:=
 match Ah s O with
 |some [b]=>match Ah s I with
  |some (a::_)=>sgn (di (jq s a) (jq b s)) !=0
  |_=>true
 |_=>true
theorem a0q(k:Sp)(L:Adj):Fi (.row [.int,.int]) (.agg [.int .i64 k.1,.int .i64 k.2]) ((L.map fun p=>(vt p.1,se p.2)).map fun e=>(e.1,C.d e.2))=some ((Ah k L).map fun l=>C.d (se l)):=by
 induction L with
 |nil=>rfl
 |cons x r ih=>
  obtain⟨a,l⟩:=x;simp only[cu,Ah]
  have:=a0s k a (C.d (se l)) ((r.map fun p=>(vt p.1,se p.2)).map fun e=>(e.1,C.d e.2))
  simp only[vt]at this ih⊢;rw[this];split
  ·rfl
  ·exact ih
theorem U9{k:Sp}:∀{L:Adj} {l:List Sp},Ah k L=some l→∃a,(a,l)∈L:=by
 intro L
 induction L with
 |nil=>intro l h;cases h
 |cons x r ih=>
  intro l h;obtain⟨a,l'⟩:=x;simp only[Ah]at h;split at h
  ·injection h with h;subst h;exact⟨a,by simp⟩
  ·obtain⟨b,hb⟩:=ih h;exact⟨b,by simp[hb]⟩
def S7(b fr C7 s:Sp):Bool:=
 (decide (vz (jq s b) fr<0)&& !decide (vz (jq C7 b) fr<0))||(decide (vz (jq s b) fr<0)==decide (vz (jq C7 b) fr<0)&&decide (0<vz (jq s b) (jq C7 b)))
def so(b fr C7 s:Sp):Sp:=if S7 b fr C7 s then s else C7
def a0n(l:List Sp)(a b:Sp):Sp:=
 match l with
 |[]=>(0,0)
 |h::r=>r.foldl (so b (jq a b)) h
section
variable{P:Program}{K:PS→Prop}{s:PS}{r:List RI}{d:Option Nat}
theorem Yd{g:Nat}{caps:List D}{own:Bool}{a x:D}(h2:fp P g (a::caps) x)(hx:x.flat=true)(h4:jn P r (s.put d (.d x)) K):Dd P g [.d a] caps own d s (xd P r K):=⟨[a],x,rfl,h2,.inl hx,h4⟩
end
section
variable{P:Program}(A:Pr3 P)
theorem am3{es:List Ed}{O I:Adj}(s:Sp)(hs:SmL s)(hO:∀p∈O,p.2.length≤2^30∧∀q∈p.2,SmL q)(hI:∀p∈I,∀q∈p.2,SmL q)(h:∃a l,Ah s I=some (a::l)):fp P A.tv [.agg [Oz O,Oz I],vt s] (.bool (S3 O I s)):=by
 refine cy A.mo A.Qw (by simp) ?_
 show jd P (Dv A.C0) (kf _ _) _;obtain⟨a,li,hi⟩:=h;have l1:=a0q s O;have l2:=a0q s I;rw[hi]at l2;rw[show vt s= .agg [.int .i64 s.1,.int .i64 s.2]from rfl];simp only[Dv,Oz,go_sem,aa,ab,ag,PS.ents,ax,I2,l1];unfold S3;rw[hi]
 have other:∀l:List Sp,l.length≠1→(match l with|[b]=>sgn (di (jq s a) (jq b s)) !=0|_=>true)=true:=by
  intro l hl
  match l with
  |[]=>rfl
  |[b]=>simp at hl
  |_::_::_=>rfl
 cases ho:Ah s O with
 |none=>
  simp only[go_sem,aa,reduceCtorEq,show((0:Int) !=1)=true from rfl]
 |some lo=>
  obtain⟨k,hk⟩:=U9 ho;obtain⟨hl,hm⟩:=hO _ hk
  match lo,ho,hl,hm with
  |[b],ho,hl,hm=>
   have hb:=hm b (by simp)
   obtain⟨k2,hk2⟩:=U9 hi
   have ha:=hI _ hk2 a (by simp)
   have ht:=avc A.toPr ha hs hb;simp only[vt]at ht;have e1:se [b]= .dt 2 [[.int .i64 b.1,.int .i64 b.2]]:=rfl;have e2:se (a::li)= .dt 2 ([.int .i64 a.1,.int .i64 a.2]::li.map zm):=rfl;simp only[go_sem,aa,ab,ag,reduceCtorEq,ho,e1,e2,bne_self_eq_false,ax,I2,l1,l2];refine Et ht ?_;simp only[go_sem,aa,reduceCtorEq]
  |[],ho,hl,hm=>
   have e1:se []= .dt 2 []:=rfl;have h01:(((0:Nat):Int) !=1)=true:=rfl;simp only[go_sem,aa,je,reduceCtorEq,e1]
  |x::y::z,ho,hl,hm=>
   have hn:(((z.length+1+1:Nat):Int) !=1)=true:=by simp;omega
   have e1:se (x::y::z)= .dt 2 (zm x::zm y::z.map zm):=rfl;simp only[go_sem,aa,reduceCtorEq,e1,ae,hn]
theorem am5{O I:Adj}(s:Sp)(hs:SmL s)(hO:∀p∈O,p.2.length≤2^30∧∀q∈p.2,SmL q)(hI:∀p∈I,∀q∈p.2,SmL q)(h:∃a l,Ah s I=some (a::l)):fp P A.sj [.agg (zm s),.tz [Oz O,Oz I] 0] (.bool (!S3 O I s)):=by
 refine cy A.mo A.Q9 (by simp) ?_
 show jd P (Da A.tv) (kf _ _) _;have hc:=am3 A (es:=[]) s hs hO hI h;simp only[vt]at hc;simp only[Da,zm,go_sem,aa,ab];refine gf hc ?_;simp only[go_sem,aa]
theorem agi(s b fr:Sp)(hs:SmL s)(hb:SmL b)(hf:SmP fr):fp P A.pk [vt s,.tz (zm b) 0,.tz (zm fr) 0] (.bool (decide (vz (jq s b) fr<0))):=by
 refine cy A.mo A.Qv (by simp) ?_
 show jd P (Du A.dr A.qy) (kf _ _) _;have h1:=Fc A.toPr hs.p hb.p;have h2:=agp A.toPr (hs.sub hb) hf;simp only[vt]at h1 h2;simp only[Du,vt,zm,go_sem,aa,ab];refine gf h1 ?_;simp only[go_sem,aa,ab];refine gf h2 ?_;simp only[go_sem,aa,reduceCtorEq]
end
section
variable{P:Program}(A:Pr3 P)
def a4i(f:Nat)(a b:Sp)(h:Sp)(r:List Sp)(k:Nat)(s':PS):Prop:=
 s'.base=0∧s'.tmp 5= .dv 5 (s'.ver 5) 0∧s'.bm 5=some (.loc [.d (.int .i64 b.1),.d (.int .i64 b.2)])∧s'.tmp 6= .dv 6 (s'.ver 6) 0∧s'.bm 6=some (.loc [.d (.int .i64 0),.d (.int .i64 0)])∧
 s'.tmp 10= .mb f [(5,s'.ver 5),(9,s'.ver 9)]∧s'.bm 9=some (.loc [.d (.int .i64 (a.1-b.1)),.d (.int .i64 (a.2-b.2))])∧
 s'.tmp 8= .dv 8 (s'.ver 8) 0∧s'.bm 8=some (.loc [.d (.int .i64 ((r.take k).foldl (so b (jq a b)) h).1),.d (.int .i64 ((r.take k).foldl (so b (jq a b)) h).2)])
theorem a7k{a b h:Sp}{r:List Sp}(hh:SmL h)(hr:∀q∈r,SmL q):SmL (r.foldl (so b (jq a b)) h):=by
 induction r generalizing h with
 |nil=>exact hh
 |cons x t ih=>
  rw[ya]
  refine ih ?_ fun q hq=>hr q (by simp[hq])
  unfold so;split
  ·exact hr x (by simp)
  ·exact hh
theorem a3h{a b h:Sp}{r:List Sp}{k:Nat}(hk:k<r.length):(r.take (k+1)).foldl (so b (jq a b)) h=so b (jq a b) ((r.take k).foldl (so b (jq a b)) h) (r.getD k (0,0)):=by
 rw[ey,pw];simp[hk,bn]
theorem avf{O I:Adj}(a b h:Sp)(r:List Sp)(ha:SmL a)(hb:SmL b)(hh:SmL h)(hr:∀q∈r,SmL q)(hl:r.length≤2^30)(ho:Ah b O=some (h::r)):fp P A.xa [.agg [Oz O,Oz I],vt a,vt b] (vt (a0n (h::r) a b)):=by
 refine cy A.mo A.Tw (by simp) ?_
 show jd P (G5 A.dr A.pk A.qy) (kf _ _) _;have l1:=a0q b O;rw[ho]at l1;have e1:se (h::r)= .dt 2 ([.int .i64 h.1,.int .i64 h.2]::r.map zm):=rfl;have hm:=Fc A.toPr ha.p hb.p;simp only[vt,jq]at hm;rw[show vt a= .agg [.int .i64 a.1,.int .i64 a.2]from rfl,show vt b= .agg [.int .i64 b.1,.int .i64 b.2]from rfl];simp only[G5,Oz,go_sem,aa,ab,ag,ax,I2,l1,e1];refine gf hm ?_
 have hlen:(1:Nat)≤r.length+1:=by omega
 have htk:(r.map zm).take r.length=r.map zm:=by rw[←ae (f:=zm)];exact eo
 simp only[go_sem,aa,df,da,ab,hlen,ae,htk];have j1:=ha.sub hb
 refine rv (fun s'=>a4i A.pk a b h r r.length s') ?_ ?_
 ·refine dq r.length (fun k s'=>a4i A.pk a b h r k s'∧s'.tmp 27= .d (.dt 2 (r.map zm))∧s'.tmp 28= .d (.int .i64 r.length)∧s'.tmp 29= .d (.int .i64 k)) ?_ ?_
  ·simp only[a4i,go_sem,aa,aE0]
  ·rintro k s' hk ⟨⟨eb,f5,b5,f6,b6,f10,b9,f8,b8⟩,f27,f28,f29⟩
   by_cases iy:(k:Int)<r.length
   ·have cj:k<r.length:=by omega
    have wk:=br ((k:Int)+1) (by omega) (by omega)
    have hg:=Bm cj
    have hs:SmL (r.getD k (0,0)):=by
     have e:r.getD k (0,0)=r[k]:=by simp[bn,cj]
     rw[e];exact hr _ (bz _)
    have aoi:=a7k (a:=a) (b:=b) hh (r:=r.take k) fun q hq=>hr q (aq6 hq)
    have tc:=a3h (a:=a) (b:=b) (h:=h) cj
    generalize hB:(r.take k).foldl (so b (jq a b)) h=C7 at*
    generalize hS:r.getD k (0,0)=s at*
    have n1:=agi A s b (jq a b) hs hb j1;have n2:=agi A C7 b (jq a b) aoi hb j1;simp only[vt,zm,jq]at n1 n2;simp only[go_sem,aa,ab,reduceCtorEq,eb,b5,f10,b9,f27,f28,f29,iy,hg,toNat_cast,aj,iz,mc];refine Yd n1 rfl ?_;simp only[go_sem,aa,ab,b5,f10,b9,f8,b8,iz,mc];refine Yd n2 rfl ?_;have m1:=Fc A.toPr hs.p hb.p;have m2:=Fc A.toPr aoi.p hb.p;have an:=agp A.toPr (hs.sub hb) (aoi.sub hb);simp only[vt,jq]at m1 m2 an;have b1:((true:Bool)==true)=true:=rfl;have b2:((false:Bool)==false)=true:=rfl;have b3:((false:Bool)==true)=false:=rfl;have b4:((true:Bool)==false)=false:=rfl
    have Yw:so b (jq a b) C7 s=if(decide (vz (s.1-b.1,s.2-b.2) (a.1-b.1,a.2-b.2)<0)&& !decide (vz (C7.1-b.1,C7.2-b.2) (a.1-b.1,a.2-b.2)<0))||
      (decide (vz (s.1-b.1,s.2-b.2) (a.1-b.1,a.2-b.2)<0)==decide (vz (C7.1-b.1,C7.2-b.2) (a.1-b.1,a.2-b.2)<0)&&decide (0<vz (s.1-b.1,s.2-b.2) (C7.1-b.1,C7.2-b.2)))then s else C7:=rfl
    by_cases hx:vz (s.1-b.1,s.2-b.2) (a.1-b.1,a.2-b.2)<0<;>by_cases hy:vz (C7.1-b.1,C7.2-b.2) (a.1-b.1,a.2-b.2)<0
    ·simp only[go_sem,aa,ab,f5,b5,hx,hy,b1]
     refine gf m1 ?_;simp only[go_sem,aa,ab,f5,b5,f8,b8];refine gf m2 ?_;simp only[go_sem,aa];refine gf an ?_;by_cases h0:0<vz (s.1-b.1,s.2-b.2) (C7.1-b.1,C7.2-b.2)
     ·simp only[hx,hy,h0,decide_true,b1,aF0,aAt,o9,aFb,if_true]at Yw
      simp only[a4i,go_sem,aa,ab,reduceCtorEq,f5,b5,f6,b6,f10,b9,f8,b8,f27,f28,f29,h0,wk,cj,tc,Yw];simp
     ·simp only[hx,hy,h0,decide_true,decide_false,o9,Sq,aAt,o9,ec,if_false]at Yw
      simp only[a4i,go_sem,aa,reduceCtorEq,f5,b5,f6,b6,f10,b9,f8,b8,f27,f28,f29,h0,wk,cj,tc,Yw];simp
    ·simp only[hx,hy,decide_true,decide_false,b4,Ji,F9,Jh,if_true]at Yw
     simp only[a4i,go_sem,aa,ab,reduceCtorEq,f5,b5,f6,b6,f10,b9,f8,b8,f27,f28,f29,hx,hy,wk,cj,tc,Yw];simp
    ·simp only[hx,hy,decide_true,decide_false,b3,aAt,cz,Sq,ec,if_false]at Yw
     simp only[a4i,go_sem,aa,reduceCtorEq,f5,b5,f6,b6,f10,b9,f8,b8,f27,f28,f29,hx,hy,b3,wk,cj,tc,Yw];simp
    ·simp only[go_sem,aa,ab,f5,b5,hx,hy,b2]
     refine gf m1 ?_;simp only[go_sem,aa,ab,f5,b5,f8,b8];refine gf m2 ?_;simp only[go_sem,aa];refine gf an ?_;by_cases h0:0<vz (s.1-b.1,s.2-b.2) (C7.1-b.1,C7.2-b.2)
     ·simp only[hx,hy,h0,decide_true,decide_false,b2,F9,aF0,Ji,aFb,if_true]at Yw
      simp only[a4i,go_sem,aa,ab,reduceCtorEq,f5,b5,f6,b6,f10,b9,f8,b8,f27,f28,f29,h0,wk,cj,tc,Yw];simp
     ·simp only[hx,hy,h0,decide_false,o9,Sq,Ji,cz,o9,ec,if_false]at Yw
      simp only[a4i,go_sem,aa,reduceCtorEq,f5,b5,f6,b6,f10,b9,f8,b8,f27,f28,f29,h0,wk,cj,tc,Yw];simp
   ·have:k=r.length:=by omega
    subst this;simp only[a4i,go_sem,aa,reduceCtorEq,eb,f5,b5,f6,b6,f10,b9,f8,b8,f28,f29,iy]
 ·rintro s' ⟨eb,f5,b5,f6,b6,f10,b9,f8,b8⟩
  rw[eo]at b8;simp only[go_sem,aa,ab,eb,f6,b6,f8,b8,a0n];rfl
end
def a6z(l:List Sp)(i:Nat):List Sp:=l.drop i++l.take i
def Zm(l C7:List Sp)(i:Nat):List Sp:=if Jv (a6z l i) C7<0 then a6z l i else C7
def La(l:List Sp)(k:Nat):List Sp:=(cq k).foldl (Zm l) l
def P0(O I:Adj)(l:List Sp):List Sp:=l.filter fun s=> !!S3 O I s
def J3(O I:Adj)(l:List Sp):List Sp:=La (P0 O I l) (P0 O I l).length
theorem Vu(l:List Sp)(k:Nat):La l (k+1)=Zm l (La l k) k:=by
 unfold La;rw[List.range_succ,pw];rfl
theorem Mr(l:List Sp)(k:Nat):(La l k).length=l.length:=by
 induction k with
 |zero=>rfl
 |succ k ih=>
  rw[Vu];unfold Zm;split
  ·simp only[a6z,cb,qn,dd];omega
  ·exact ih
theorem akj(m:Mem)(id ver:Nat)(l:List Sp)(p:Sp→Bool)(hb:m.bm id=some (.arr 2 (l.map zm)))(hv:m.ver id=ver):
  ∃v,(J1 m id ver l p).bm id=some (.arr 2 ((l.filter fun x=> !p x).map zm))∧(J1 m id ver l p).ver id=v∧Xf id ver l p= .ref id v (l.filter fun x=> !p x).length∧
   (∀j,j≠id→(J1 m id ver l p).bm j=m.bm j∧(J1 m id ver l p).ver j=m.ver j)∧(J1 m id ver l p).mp=m.mp:=by
 unfold J1 Xf;cases h:l.any p
 ·have hf:l.filter (fun x=> !p x)=l:=filter_none fun x hx=>by simpa using aq2.1 h x hx
  simp only[ec,if_false,hf]
  exact⟨ver,hb,hv,rfl,fun j _=>⟨trivial,trivial⟩,trivial⟩
 ·simp only[if_true]
  exact⟨ver+1,by simp[Mem.put,bh],by simp[Mem.put,bh],rfl,fun j hj=>by simp[Mem.put,al,hj],rfl⟩
theorem ahg(l:List Sp):∀e∈l.map zm,e.all D.one=true:=by
 intro e he;obtain⟨p,_,rfl⟩:=jc.1 he;rfl
section
variable{P:Program}(A:Pr3 P)
theorem akg{K:PS→Prop}{s:PS}{r:List RI}{d:Option Nat}(l:List Sp)(hl:l.length≤2^30){id ver b q qv:Nat}{g:Nat}{n1 n2:D}{p:Sp→Bool}(hb:s.bm id=some (.arr 2 (l.map zm)))(hv:s.ver id=ver)
  (abb:s.bm (b+7)=none∧s.mp (b+7)=none)(hid:id≠b+7)(awl:s.mp id=none)(hq:s.bm q=some (.loc [.d n1,.d n2]))(hqv:s.ver q=qv)(hq1:q≠id)(hq2:q≠b+7)
  (hp:∀x∈l,fp P g [.agg (zm x),.tz [n1,n2] 0] (.bool (p x)))
  (hK:∀(m':Mem) (v:Nat),m'.bm id=some (.arr 2 ((l.filter fun x=> !p x).map zm))→m'.ver id=v→(∀j,j≠id→m'.bm j=s.bm j∧m'.ver j=s.ver j)→m'.mp=s.mp→jn P r ((s.gl m').put d (.ref id v (l.filter fun x=> !p x).length)) K):
  ac6 P A.ke [.ref id ver l.length,.mb g [(q,qv)]] d s (xd P r K):=by
 obtain⟨v,q1,q2,q3,q4,q5⟩:=akj s.mem id ver l p hb hv;refine iu (a6x A l hl hb hv abb hid awl hq hqv hq1 hq2 hp) ?_;rw[q3];exact hK _ v q1 q2 q4 q5
theorem agn{O I:Adj}(l:List Sp)(kg:l≠[])(hl:l.length≤2^20)(hs:∀s∈l,SmL s∧∃a li,Ah s I=some (a::li))(hO:∀p∈O,p.2.length≤2^30∧∀q∈p.2,SmL q)(hI:∀p∈I,∀q∈p.2,SmL q):
  fp P A.lz [.agg [Oz O,Oz I],se l] (se (J3 O I l)):=by
 refine cy A.mo A.Se (by simp) ?_
 show jd P (F1 A.ed A.sj A.ke A.nn A.gp A.qx) (kf _ _) _
 have Yy:l.map zm≠[]:=by simpa using kg
 simp only[F1,se,go_sem,aa,ab]
 refine iu (a5w A.mo A.yl Yy (ahg l) (by rw[ae];omega) _ 1000) ?_
 simp only[go_sem,aa,ab,PS.gl,ae]
 refine akg A l (by omega) (id:=1005) (b:=2000) (q:=2) (n1:=Oz O) (n2:=Oz I) (p:=fun s=> !S3 O I s) (by simp[Mem.put,PS.mem,al]) (by simp[Mem.put,PS.mem,al]) (by simp[Mem.put,PS.mem,al]) (by omega) (by simp[Mem.put,PS.mem]) (by simp[Mem.put,PS.mem,al]) (by simp[Mem.put,PS.mem,al]) (by omega) (by omega) ?_ ?_
 ·intro x hx
  obtain⟨h1,h2⟩:=hs x hx;exact am5 A x h1 hO hI h2
 ·intro m' v q1 q2 q3 q4
  simp only[go_sem,aa,PS.gl];refine Qg [1005] ?_;simp only[aha,go_sem,aa,V.rb,C.rb,dn,jg,or_false,q1,q2,ae];have hFl:(P0 O I l).length≤l.length:=Im _ _
  have hFe:(l.filter fun x=> !!S3 O I x)=P0 O I l:=rfl
  rw[hFe]at q1⊢;simp only[J3]
  generalize P0 O I l=F at*
  refine rv (fun s'=>s'.base=0∧s'.tmp 5= .d (.dt 2 ((La F F.length).map zm))) ?_ ?_
  ·refine dq F.length (fun i s'=>s'.base=0∧s'.tmp 1= .d (.dt 2 (F.map zm))∧s'.tmp 5= .d (.dt 2 ((La F i).map zm))∧s'.tmp 14= .d (.int .i64 F.length)∧s'.tmp 15= .d (.int .i64 i)) ?_ ?_
   ·simp only[go_sem,aa,q1,q2,ae]
    rfl
   ·rintro i s' hi ⟨eb,f1,f5,f14,f15⟩
    by_cases iy:(i:Int)<F.length
    ·have cj:i<F.length:=by omega
     have wi:=br ((i:Int)+1) (by omega) (by omega)
     have hi1:i≤(F.map zm).length:=by rw[ae];omega
     have hfl:[F.drop i,F.take i].flatten=a6z F i:=by simp[a6z]
     have hrl:(a6z F i).length=F.length:=by simp only[a6z,cb,qn,dd];omega
     have hcc:=amg A [F.drop i,F.take i] (by rw[hfl];intro h;rw[h]at hrl;simp at hrl;omega) (by simp) (by rw[hfl,hrl];omega)
     have hcm:=Sv A (a6z F i) (La F i) (by rw[hrl];omega) (by rw[Mr];omega)
     rw[hfl]at hcc;have htk:aGu (F.map zm).length (F.map zm)=F.map zm:=eo;simp only[jv,se,cu,ez]at hcc hcm;rw[av0,J7]at hcc;simp only[go_sem,aa,ab,ag,reduceCtorEq,ca,eb,f1,f14,f15,iy,toNat_cast,aj,hi1,htk,aFr];refine ee hcc ?_;simp only[go_sem,aa,f5];refine Et hcm ?_;have tc:=Vu F i;unfold Zm at tc;by_cases hc:Jv (a6z F i) (La F i)<0
     ·rw[if_pos hc]at tc
      simp only[go_sem,aa,reduceCtorEq,f1,f5,f14,f15,hc,wi,cj,tc];simp
     ·rw[if_neg hc]at tc
      simp only[go_sem,aa,reduceCtorEq,f1,f5,f14,f15,hc,wi,cj,tc];simp
    ·have:i=F.length:=by omega
     subst this;simp only[go_sem,aa,reduceCtorEq,eb,f5,f14,f15,iy]
  ·rintro s' ⟨eb,f5⟩
   simp only[go_sem,eb,f5]
   refine ee (Rg A.mo A.yl (ahg _) (by rw[ae,Mr];omega)) ?_
   simp only[go_sem,aa]
end
structure au4{α:Type}(f:α→α→Int):Prop where
 sym:∀a b,f a b<0↔0<f b a
 zero:∀a b,f a b=0↔a=b
 trans:∀a b c,f a b<0→f b c<0→f a c<0
theorem Xh:au4 Rf where
 sym a b:=by unfold Rf;split<;>split<;>(try split)<;>omega
 zero a b:=by unfold Rf;split<;>(try split)<;>omega
 trans a b c:=by
   unfold Rf;repeat' split
   all_goals omega
theorem Ps{α:Type}{f:α→α→Int}(h:au4 f):au4 (yg f):=by
 have sym:∀a b,yg f a b<0↔0<yg f b a:=by
  intro a
  induction a with
  |nil=>intro b;cases b<;>simp[yg]
  |cons x r ih=>
   intro b
   cases b with
   |nil=>simp[yg]
   |cons y t=>
    simp only[yg];have h1:=h.zero x y;have h2:=h.zero y x;have h3:=h.sym x y;have h4:=h.sym y x;by_cases e:f x y=0
    ·have e':f y x=0:=h2.2 (h1.1 e).symm
     rw[if_pos e,if_pos e'];exact ih t
    ·have e':¬f y x=0:=fun q=>e (h1.2 (h2.1 q).symm)
     rw[if_neg e,if_neg e'];exact h3
 have zero:∀a b,yg f a b=0↔a=b:=by
  intro a
  induction a with
  |nil=>intro b;cases b<;>simp[yg]
  |cons x r ih=>
   intro b
   cases b with
   |nil=>simp[yg]
   |cons y t=>
    simp only[yg];have h1:=h.zero x y;by_cases e:f x y=0
    ·rw[if_pos e,ih t,h1.1 e];simp
    ·rw[if_neg e]
     constructor
     ·intro q;exact absurd q e
     ·intro q;injection q with q1 q2;exact absurd (h1.2 q1) e
 refine⟨sym,zero,?_⟩;intro a
 induction a with
 |nil=>
  intro b c h1 h2
  cases c with
  |nil=>cases b with
   |nil=>exact h1
   |cons y t=>simp[yg]at h2
  |cons z u=>simp[yg]
 |cons x r ih=>
  intro b c h1 h2
  cases b with
  |nil=>simp[yg]at h1
  |cons y t=>
   cases c with
   |nil=>simp[yg]at h2
   |cons z u=>
    simp only[yg]at h1 h2⊢;by_cases e1:f x y=0
    ·rw[if_pos e1]at h1
     have:=(h.zero x y).1 e1;subst this;by_cases e2:f x z=0
     ·rw[if_pos e2]at h2⊢;exact ih t u h1 h2
     ·rw[if_neg e2]at h2⊢;exact h2
    ·rw[if_neg e1]at h1
     by_cases e2:f y z=0
     ·have:=(h.zero y z).1 e2
      subst this;rw[if_neg e1];exact h1
     ·rw[if_neg e2]at h2
      have h3:=h.trans x y z h1 h2
      rw[if_neg (by omega)];exact h3
theorem Ck:au4 Jv:=by
 refine Ps ⟨fun a b=>(Ps Xh).sym _ _,fun a b=>?_,fun a b c=>(Ps Xh).trans _ _ _⟩
 rw[show Re a b=yg Rf [a.1,a.2] [b.1,b.2]from rfl,(Ps Xh).zero];constructor
 ·intro h;simp at h;exact Jg h.1 h.2
 ·rintro rfl;rfl
def ahm:List (List Sp)→Prop:=List.Pairwise fun a b=>¬(Jv b a<0)
theorem adw{a b:List Sp}(h1:¬(Jv b a<0))(h2:¬(Jv a b<0)):a=b:=by
 have:=Ck.sym a b
 exact(Ck.zero a b).1 (by have:=Ck.sym b a;omega)
theorem a71{a b:List (List Sp)}(hp:a.Perm b)(ha:ahm a)(hb:ahm b):a=b:=
 hp.eq_of_pairwise (fun x y _ _ h1 h2=>adw h1 h2) ha hb
def uh(ls:List (List Sp)):List (List Sp):=ls.mergeSort fun a b=>decide (¬(Jv b a<0))
theorem C8(ls:List (List Sp)):(uh ls).Perm ls:=List.mergeSort_perm _ _
theorem acg{a b c:List Sp}(h1:¬(Jv b a<0))(h2:¬(Jv c b<0)):¬(Jv c a<0):=by
 intro h;by_cases e:Jv b a=0
 ·have:=(Ck.zero b a).1 e
  subst this;exact h2 h
 ·have h3:Jv a b<0:=(Ck.sym a b).2 (by omega)
  exact h2 (Ck.trans c a b h h3)
theorem a6j(ls:List (List Sp)):ahm (uh ls):=by
 have h:=List.pairwise_mergeSort (le:=fun a b:List Sp=>decide (¬(Jv b a<0))) (fun a b c h1 h2=>by
  simp only[decide_eq_true_eq]at h1 h2⊢;exact acg h1 h2) (fun a b=>by
  have:=Ck.sym a b
  simp only[Zk,decide_eq_true_eq];omega) ls
 exact h.imp fun h=>by simpa using h
end Go.PI
namespace Go.PI
open Go Go.RowKit
theorem Bel.grown{w w':World}(h:Bel w.heap.size w w'):∃q os,w'=aG2 (w.drewN q) os:=by
 refine⟨w'.drawn-w.drawn,w'.heap.extract w.heap.size w'.heap.size,?_⟩;have hd:=h.drawn;have hs:=h.size
 have hh:w'.heap=w.heap++w'.heap.extract w.heap.size w'.heap.size:=by
  apply Array.ext_getElem?;intro k;rw[F7];split
  ·rename_i hk;exact h.block k hk
  ·rename_i hk
   rw[Yr];by_cases hk2:k<w'.heap.size
   ·rw[if_pos (by omega)]
    congr 1
    omega
   ·rw[if_neg (by omega),Array.getElem?_eq_none (by omega)]
 unfold aG2 World.drewN
 have e2:w.drawn+(w'.drawn-w.drawn)=w'.drawn:=by omega
 cases w'
 simp only[World.mk.injEq]at*
 exact⟨hh,h.tape,e2.symm,h.os,h.output⟩
def El(G:fc):Type:={p:List Sp×Value//fh G (se p.1) p.2∧p.1.length≤2^20}
instance(G:fc):Inhabited (El G):=⟨⟨([],.slice none 0 0),.Tb,by simp⟩⟩
def El.enc{G:fc}(x:El G):Value:=x.1.2
def El.cf{G:fc}(x y:El G):Int:=Jv x.1.1 y.1.1
theorem El.one(G:fc):Go.Proofs.OneCell (El.enc (G:=G)):=fun x=>fh.aal x.2.1 rfl
theorem El.swo(G:fc):Go.Sort.SWO (Go.Proofs.ltOf (El.cf (G:=G)))where
 irrefl x:=by
  have:=(Ck.zero x.1.1 x.1.1).2 rfl;simp[Go.Proofs.ltOf,El.cf,this]
 trans x y z h1 h2:=decide_eq_true (Ck.trans x.1.1 y.1.1 z.1.1 (of_decide_eq_true h1) (of_decide_eq_true h2))
 ntrans x y z h1 h2:=decide_eq_false (acg (of_decide_eq_false h2) (of_decide_eq_false h1))
section
variable{P:Program}(A:Pr3 P)
theorem a4v(a b:List Sp)(ha:a.length≤2^50)(hb:b.length≤2^50):fp P A.l7 [se a,se b] (.int .i64 (Jv a b)):=by
 refine cy A.mo A.Tv (by simp) ?_
 show jd P (G4 A.gp A.qx) (kf _ _) _;have h:=Sv A a b ha hb;simp only[se]at h;simp only[G4,se,go_sem,aa,reduceCtorEq];refine Et h ?_;simp only[go_sem,aa]
end
section
variable{P:Program}{G:fc}{w:World}{bm:Nat}{cells:Array Value}{et:TypeId}
theorem ag9(hh:w.heap[bm]? =some (.cells cells et (0,0))){m:Nat}{dk:Array (El G)}{os:Array Obj}:
  (Yp El.enc w bm 0 m dk os).heap=w.heap.modify bm (Go.Sort.onCells (B6 El.enc 0 dk))++os∧
  (∀k,k<w.heap.size→k≠bm→(Yp El.enc w bm 0 m dk os).heap[k]? =w.heap[k]?)∧
  (Yp El.enc w bm 0 m dk os).heap[bm]? =some (.cells (B6 El.enc 0 dk cells) et (0,0)):=by
 have hb:bm<w.heap.size:=(j4.1 hh).1;have e:(Yp El.enc w bm 0 m dk os).heap=w.heap.modify bm (Go.Sort.onCells (B6 El.enc 0 dk))++os:=rfl
 refine⟨e,fun k hk kg=>?_,?_⟩
 ·rw[e,yc (by simpa using hk),Bi,if_neg (fun q=>kg q.symm)]
 ·rw[e,yc (by simpa using hb),Bi,if_pos rfl,hh]
  rfl
theorem alf(hG:GOk G w)(hh:w.heap[bm]? =some (.cells cells et (0,0)))(C4:∀o,G.cv bm o=none){m:Nat}{dk:Array (El G)}{os:Array Obj}:GOk G (Yp El.enc w bm 0 m dk os)where
 cv b o v hv:=by
  have iy:=hG.lt hv
  have kg:b≠bm:=fun q=>by rw[q,C4]at hv;cases hv
  have:=hG.cv b o v hv;unfold aG5 at this⊢;rw[(ag9 hh).2.1 b iy kg];exact this
 mv b es hv:=by
  obtain⟨ents,clock,h1,h2⟩:=hG.mv b es hv;have iy:=hG.ltm hv
  have kg:b≠bm:=fun q=>by rw[q,hh]at h1;cases h1
  exact⟨ents,clock,by rw[(ag9 hh).2.1 b iy kg];exact h1,h2⟩
end
end Go.PI
namespace Go.PI
open Go Go.RowKit Go.Proofs
section
variable{P:Program}(A:Pr3 P){ρ:aG3}
theorem Ri{f:Nat}{B:Func}(h:Bears P f B)(hb:B.body.isSome=true):yh P f=true:=by
 obtain⟨nm,h1,h2⟩:=h;unfold yh;rw[h2];simp only[cd,bne,h1,Ji,true_and];exact hb
def Rp(m:Mem)(id:Nat)(ls:List (List Sp)):Mem:=⟨jf m.bm id (some (.arr 1 ((uh ls).map fun l=>[se l]))),m.ver,m.mp⟩
theorem adm(L:aGl P ρ)(hρ:ρ.f 6=A.ew)(ls:List (List Sp))(hlen:ls.length≤2^20)(hls:∀l∈ls,l.length≤2^20){m:Mem}{id ver:Nat}(hb:m.bm id=some (.arr 1 (ls.map fun l=>[se l])))(hv:m.ver id=ver):
  nj P A.ew m [.ref id ver ls.length,.d (.mb A.l7 [])] (Rp m id ls) (.d (.yi [])):=by
 refine⟨by rw[←hρ];exact Ri L.f6 rfl,fun s B0 w0 nt G0 G E a w vs hs hF hl Di=>?_⟩
 subst hs
 have ow:s.bm id=some (.arr 1 (ls.map fun l=>[se l])):=hb
 have C3:vs.size=2:=hl
 have h0:=Di 0 _ vs[0] rfl (av (by omega))
 have h1:=Di 1 _ vs[1] rfl (av (by omega))
 obtain⟨_,k2⟩:=h0.2 hv _ _ (tp ow)
 obtain⟨cap,c1,c2,e0⟩:=k2 (by simp)
 have e1:vs[1]= .func (.func A.l7) #[] #[]:=by
  generalize vs[1]=v1 at h1
  cases h1 with
  |mb hz _=>rw[Ud hz]
 have ev:vs= #[.slice (some ⟨E.b id,0,none⟩) ls.length cap,.func (.func A.l7) #[] #[]]:=by
  apply Array.ext (by simpa using C3)
  intro i h1 h2
  match i,h1 with
  |0,_=>exact e0
  |1,_=>exact e1
  |i+2,h1=>omega
 subst ev;obtain⟨cells,et,hh,hn,hc,hw⟩:=hF.va ow;obtain⟨hB,C4,_⟩:=hF.bm id _ ow
 have Gc:ls.length≤cells.size:=by have:=hc.1;simpa using this
 have auj:∀i (hi:i<ls.length),fh G (se ls[i]) (cells[i]'(by omega)):=fun i hi=>hc.2.2 i [se ls[i]] 0 _ _ (by simp[hi]) rfl (by simp)
 let f:Fin ls.length→El G:=fun i=>⟨(ls[i],cells[i]'(by omega)),auj i i.2,hls _ (bz _)⟩
 obtain⟨d,hd⟩:∃d:Array (El G),d=Array.ofFn f:=⟨_,rfl⟩
 have dsz:d.size=ls.length:=by rw[hd];exact Array.size_ofFn
 have dat:∀j (hj:j<ls.length),d[j]! =⟨(ls[j],cells[j]'(by omega)),auj j hj,hls _ (bz _)⟩:=by
  intro j hj
  rw[getElem!_pos d j (by omega)]
  subst hd;exact Array.getElem_ofFn _
 have hblk:E.b id<w.heap.size:=(j4.1 hh).1
 have hH:Go.Sort.Holds El.enc w (E.b id) 0 d:=by
  intro j hj;rw[dsz]at hj
  rw[dat j hj,eh,hw,av (by omega)]
  refine⟨rfl,?_⟩;unfold World.frozen?;rw[hh];simp
 have abf:CmpLays1 P A.l7 #[] (El.enc (G:=G)) El.cf (E.b id) 0 d.size w:=by
  intro mm os dk hs x y
  have hp:=(a4v A x.1.1 y.1.1 (gn x.2.2 (by omega)) (gn y.2.2 (by omega))).2 G (sortWorld El.enc w (E.b id) 0 mm dk os) #[El.enc x,El.enc y] (alf hF.gok hh C4) rfl (by
   intro i z v hz hv
   match i,hz,hv with
   |0,hz,hv=>simp at hz hv;subst hz hv;exact x.2.1
   |1,hz,hv=>simp at hz hv;subst hz hv;exact y.2.1
   |i+2,hz,hv=>simp at hz)
  refine hp.mono ?_;rintro e w' ⟨v,G',rfl,_,_,_,X2,hd⟩;cases hd;exact⟨rfl,X2.grown⟩
 have Hq:=Any.slices_SortFunc L El.enc (El.one G) El.cf (El.swo G) A.l7 #[] (E.b id) 0 cap d w (fun args w=>I5 (a4v A [] [] (by simp) (by simp)).1 args) abf hH hblk (by omega)
 rw[hρ,dsz]at Hq;refine Hq.mono ?_;rintro e w' ⟨rfl,d',n',os,⟨p1,p2,p3⟩,q,rfl⟩
 refine⟨_,G,E,rfl,?_,fh.yi rfl (by simp)⟩
 have aA2:d'.size=ls.length:=p1.trans dsz
 have ayy:d'.toList.Perm d.toList:=by
  have e1:d'.extract 0 ls.length=d':=by rw[←aA2];simp
  have e2:d.extract 0 ls.length=d:=by rw[←dsz];simp
  rwa[e1,e2]at p3
 have aob:d.toList.map (fun x:El G=>x.1.1)=ls:=by
  apply ahv
  ·simp[dsz]
  ·intro i h1 h2
   have:=dat i h2
   rw[getElem!_pos d i (by omega)]at this
   simp only[ahu,a6g,this]
 have aC5:d'.toList.map (fun x:El G=>x.1.1)=uh ls:=by
  refine a71 ?_ ?_ (a6j ls)
  ·have:=ayy.map fun x:El G=>x.1.1
   rw[aob]at this;exact this.trans (C8 ls).symm
  ·unfold ahm
   rw[List.pairwise_map,Rm];intro i j h1 h2 hij
   have:=q i j (aFr _) hij (by rw[rh]at h2;omega)
   rw[getElem!_pos d' i (by simpa using h1),getElem!_pos d' j (by simpa using h2)]at this
   have h3:=of_decide_eq_false this;simp only[a6g];exact h3
 have aba:(uh ls).length=ls.length:=(C8 ls).length_eq
 have a7y:∀i (hi:i<ls.length),(uh ls)[i]'(by omega)=(d'[i]!).1.1:=by
  intro i hi
  rw[getElem!_pos d' i (by omega)]
  simp only[←aC5,ahu,a6g]
 have hpc:∀k (hk:k<ls.length),(B6 El.enc 0 d' cells)[k]? =some (El.enc d'[k]!):=by
  intro k hk;unfold B6
  rw[Array.getElem?_mapIdx,av (by omega)]
  simp only[gz,aFr,eh,true_and,S8,aA2,hk,if_true]
 have ayw:(B6 El.enc 0 d' cells).size=cells.size:=by unfold B6;exact Array.size_mapIdx
 have hT:y9 w (a6e w (E.b id) (B6 El.enc 0 d')) (E.b id) (.cells (B6 El.enc 0 d' cells) et (0,0)):=by
  refine⟨rfl,rfl,rfl,rfl,by simp[a6e],fun k hk=>?_,?_⟩
  ·unfold a6e
   rw[Bi,if_neg fun q=>hk q.symm]
  ·unfold a6e
   rw[Bi,if_pos rfl,hh];rfl
 have hHo:Go.PI.Holds G E s (B6 El.enc 0 d' cells) (.arr 1 ((uh ls).map fun l=>[se l])):=by
  refine⟨by rw[ayw];simpa[aba]using Gc,fun i e he=>?_,fun i e j x u he hx hu=>?_⟩
  ·simp only[bp,ak]at he
   obtain⟨l,_,rfl⟩:=he;rfl
  ·simp only[bp,ak]at he
   obtain⟨l,hl1,rfl⟩:=he;obtain⟨hi,rfl⟩:=aq.1 hl1
   have Dx:i<ls.length:=by omega
   cases j with
   |succ j=>simp at hx
   |zero=>
    simp only[ff,ah]at hx;subst hx;rw[Nat.mul_one,xu,hpc i Dx]at hu
    injection hu with hu
    subst hu;rw[a7y i Dx];exact(d'[i]!).2.1
 have hf:=hF.set ow (Alike.arr (by simp[aba])) hT (by rw[ayw];exact hn) hHo
 have hwe:sortWorld El.enc w (E.b id) 0 n' d' os=aG2 ((a6e w (E.b id) (B6 El.enc 0 d')).drewN n') os:=rfl;have hgk:=alf hF.gok hh C4 (m:=n') (dk:=d') (os:=os);rw[hwe]at hgk⊢
 refine hf.U8 (w':=aG2 ((a6e w (E.b id) (B6 El.enc 0 d')).drewN n') os) ⟨⟨rfl,rfl,rfl,?_,fun k hk=>?_⟩,Nat.le_add_right _ _⟩ (fc.le_refl _) hgk (fun _ _ _=>rfl) (fun _ _=>rfl)
 ·show _≤(_++os).size
  rw[T7];exact Nat.le_add_right _ _
 ·exact yc hk
theorem aio(L:aGl P ρ)(hρ:ρ.f 6=A.ew)(m:Mem):nj P A.ew m [.d .bd,.d (.mb A.l7 [])] m (.d (.yi [])):=by
 refine⟨by rw[←hρ];exact Ri L.f6 rfl,fun s B0 w0 nt G0 G E a w vs hs hF hl Di=>?_⟩
 have C3:vs.size=2:=hl
 have h0:=Di 0 _ vs[0] rfl (av (by omega))
 have e0:vs[0]= .slice none 0 0:=by
  generalize vs[0]=v0 at h0;cases h0;rfl
 have ev:vs= #[.slice none 0 0,vs[1]]:=by
  apply Array.ext (by simpa using C3)
  intro i h1 h2
  match i,h1 with
  |0,_=>exact e0
  |1,_=>rfl
  |i+2,h1=>omega
 rw[ev]
 have Hq:=AnyF.slices_SortFunc_none (P:=P) (ρ:=ρ) {L with} none 0 vs[1] w
 rw[hρ]at Hq;refine Hq.mono ?_;rintro e w' ⟨rfl,rfl⟩
 refine⟨_,G,E,rfl,?_,fh.yi rfl (by simp)⟩
 subst hs;exact hF
theorem a9v(L:aGl P ρ)(hρ:ρ.f 6=A.ew)(ls:List (List Sp))(hlen:ls.length≤2^20)(hls:∀l∈ls,l.length≤2^20){m:Mem}{id ver:Nat}(hb:m.bm id=some (.arr 1 (ls.map fun l=>[se l])))(hv:m.ver id=ver)(b:Nat):
  nj P A.kj m [.ref id ver ls.length] (Rp m id ls) (.ref id ver ls.length):=by
 have hs:=adm A L hρ ls hlen hls hb hv;have aba:(uh ls).length=ls.length:=(C8 ls).length_eq
 refine jt A.mo A.Oo (by simp) b (fun c=>?_) (fun i=>ar _) (fun i b' ow=>?_) (fun i es hi=> .inl hi) (by simp[F5,Rp,hv])
 ·show jd P (Bp A.ew A.l7) (u0 m [.tmp 2] _ _) _
  simp only[Bp,enter,go_sem,aa,reduceCtorEq];refine iu hs ?_;simp only[go_sem,aa,reduceCtorEq,PS.gl,nh,qa]
  exact fun i=>⟨.inr ⟨rfl,rfl⟩,.inr ⟨rfl,rfl⟩⟩
 ·simp only[Rp,al]at ow
  split at ow
  ·injection ow with ow;subst ow;exact .inr trivial
  ·exact .inl ow
theorem Xx(L:aGl P ρ)(hρ:ρ.f 6=A.ew)(m:Mem)(b:Nat):nj P A.kj m [.d .bd] m (.d .bd):=by
 have hs:=aio A L hρ m
 refine jt A.mo A.Oo (by simp) b (fun c=>?_) (fun i=>ar _) (fun i b' ow=> .inl ow) (fun i es hi=> .inl hi) trivial
 show jd P (Bp A.ew A.l7) (u0 m [.tmp 2] _ _) _;simp only[Bp,enter,go_sem,aa,reduceCtorEq];refine iu hs ?_;simp only[go_sem,aa,reduceCtorEq,PS.gl,nh,qa]
 exact fun i=>⟨.inr ⟨rfl,rfl⟩,.inr ⟨rfl,rfl⟩⟩
end
end Go.PI
namespace Go.PI
theorem a0t{α:Type}{a b:List α}(hl:a.length=b.length)(h:∀i (h1:i<a.length) (h2:i<b.length),a[i]=b[i]):a=b:=ahv hl h
theorem aln{a b:Sp}:(a.1==b.1&&a.2==b.2)=decide (a=b):=by
 rw[Q4];simp only[cd,beq_iff_eq,decide_eq_true_eq]
 exact⟨fun h=>Jg h.1 h.2,fun h=>by subst h;exact⟨rfl,rfl⟩⟩
section
variable{P:Program}(A:Pr3 P)
theorem ar7(a b:List Sp)(ha:a.length≤2^50)(hb:b.length≤2^50):fp P A.fu [se a,se b] (.bool (decide (a=b))):=by
 refine cy A.mo A.L7 (by simp) ?_
 show jd P u5 (kf _ _) _;by_cases hl:a.length=b.length
 ·have hlb:((a.length:Int) !=b.length)=false:=by simp[hl]
  simp only[u5,se,go_sem,aa,reduceCtorEq,ae,hlb]
  refine rv (fun s'=>a=b) ?_ ?_
  ·refine dq a.length (fun i s'=>s'.tmp 0= .d (.dt 2 (a.map zm))∧s'.tmp 1= .d (.dt 2 (b.map zm))∧s'.tmp 12= .d (.int .i64 a.length)∧s'.tmp 13= .d (.int .i64 i)∧∀k (h1:k<a.length) (h2:k<b.length),k<i→a[k]=b[k]) ?_ ?_
   ·simp only[go_sem,aa,reduceCtorEq]
    exact fun k _ _ h=>absurd h (aAp _)
   ·rintro i s' hi ⟨f0,f1,f12,f13,hI⟩
    by_cases iy:(i:Int)<a.length
    ·have cj:i<a.length:=by omega
     have aer:i<b.length:=by omega
     have wi:=br ((i:Int)+1) (by omega) (by omega)
     have g1:=Bm cj;have g2:=Bm aer
     have e1:a.getD i (0,0)=a[i]:=by simp[bn,cj]
     have e2:b.getD i (0,0)=b[i]:=by simp[bn,aer]
     rw[e1]at g1;rw[e2]at g2;have he:(a[i].1==b[i].1&&a[i].2==b[i].2)=decide (a[i]=b[i]):=aln;by_cases hq:a[i]=b[i]
     ·rw[decide_eq_true hq]at he
      simp only[go_sem,aa,ab,reduceCtorEq,f0,f1,f12,f13,iy,g1,g2,toNat_cast,aj,wi,cj,he]
      refine⟨by simp,fun k h1 h2 hk=>?_⟩
      rcases T4.1 hk with hk|rfl
      ·exact hI k h1 h2 hk
      ·exact hq
     ·have kg:decide (a=b)=false:=decide_eq_false fun h=>hq (by subst h;rfl)
      rw[decide_eq_false hq]at he;simp only[go_sem,aa,ab,reduceCtorEq,f0,f1,f12,f13,iy,g1,g2,toNat_cast,aj,he,kg]
    ·have:i=a.length:=by omega
     subst this;simp only[go_sem,reduceCtorEq,f12,f13,iy]
     exact a0t hl fun k h1 h2=>hI k h1 h2 h1
  ·rintro s' he
   have:decide (a=b)=true:=decide_eq_true he;simp only[go_sem,this]
 ·have hlb:((a.length:Int) !=b.length)=true:=by simp;omega
  have kg:decide (a=b)=false:=decide_eq_false fun h=>hl (by rw[h])
  simp only[u5,se,go_sem,aa,reduceCtorEq,ae,hlb,kg]
theorem aa4(a b:List (List Sp))(ha:a.length≤2^50)(hb:b.length≤2^50)(hal:∀l∈a,l.length≤2^50)(hbl:∀l∈b,l.length≤2^50):fp P A.fa [jv a,jv b,.mb A.fu []] (.bool (decide (a=b))):=by
 refine cy A.mo A.yf (by simp) ?_
 show jd P kh (kf _ _) _;by_cases hl:a.length=b.length
 ·have hlb:((a.length:Int) !=b.length)=false:=by simp[hl]
  simp only[kh,jv,go_sem,aa,reduceCtorEq,ae,hlb]
  refine rv (fun s'=>a=b) ?_ ?_
  ·refine dq a.length (fun i s'=>s'.tmp 15= .d (.dt 1 (a.map fun l=>[se l]))∧s'.tmp 1= .d (.dt 1 (b.map fun l=>[se l]))∧s'.tmp 2= .d (.mb A.fu [])∧s'.tmp 16= .d (.int .i64 a.length)∧s'.tmp 17= .d (.int .i64 i)∧∀k (h1:k<a.length) (h2:k<b.length),k<i→a[k]=b[k]) ?_ ?_
   ·simp only[go_sem,aa]
    exact fun k _ _ h=>absurd h (aAp _)
   ·rintro i s' hi ⟨f0,f1,f2,f12,f13,hI⟩
    by_cases iy:(i:Int)<a.length
    ·have cj:i<a.length:=by omega
     have aer:i<b.length:=by omega
     have wi:=br ((i:Int)+1) (by omega) (by omega)
     have g1:=Cf cj;have g2:=Cf aer;have hE:=ar7 A a[i] b[i] (hal _ (bz _)) (hbl _ (bz _));simp only[se]at hE;simp only[go_sem,aa,reduceCtorEq,f0,f1,f2,f12,f13,iy,g1,g2,toNat_cast,aj];refine Ly hE ?_;by_cases hq:a[i]=b[i]
     ·have he:decide (a[i]=b[i])=true:=decide_eq_true hq
      simp only[go_sem,aa,reduceCtorEq,f0,f1,f2,f12,f13,he,wi,cj]
      refine⟨by simp,fun k h1 h2 hk=>?_⟩
      rcases T4.1 hk with hk|rfl
      ·exact hI k h1 h2 hk
      ·exact hq
     ·have he:decide (a[i]=b[i])=false:=decide_eq_false hq
      have kg:decide (a=b)=false:=decide_eq_false fun h=>hq (by subst h;rfl)
      simp only[go_sem,aa,he,kg]
    ·have:i=a.length:=by omega
     subst this;simp only[go_sem,reduceCtorEq,f12,f13,iy]
     exact a0t hl fun k h1 h2=>hI k h1 h2 h1
  ·rintro s' he
   have:decide (a=b)=true:=decide_eq_true he;simp only[go_sem,this]
 ·have hlb:((a.length:Int) !=b.length)=true:=by simp;omega
  have kg:decide (a=b)=false:=decide_eq_false fun h=>hl (by rw[h])
  simp only[kh,jv,go_sem,aa,reduceCtorEq,ae,hlb,kg]
theorem adq:fp P A.fa [.bd,.bd,.mb A.fu []] (.bool true):=by
 refine cy A.mo A.yf (by simp) ?_
 show jd P kh (kf _ _) _;simp only[kh,go_sem,aa,reduceCtorEq,bne_self_eq_false]
 refine rv (fun s'=>True) ?_ ?_
 ·refine dq 0 (fun i s'=>s'.tmp 16= .d (.int .i64 0)∧s'.tmp 17= .d (.int .i64 0)) ?_ ?_
  ·simp only[go_sem,aa]
  ·rintro i s' hi ⟨f12,f13⟩
   simp only[go_sem,reduceCtorEq,f12,f13]
 ·rintro s' _
  simp only[go_sem]
end
theorem tq{a b:Sp}:ru a b=true↔a=b:=by
 unfold ru;rw[aln,decide_eq_true_eq]
theorem ag3(b k v:Sp):∀L:Adj,Ah b (qt k v L)=if ru b k then some ((Ah b L).getD []++[v])else Ah b L:=by
 intro L
 induction L with
 |nil=>
  simp only[qt,Ah];split<;>simp
 |cons x r ih=>
  obtain⟨a,l⟩:=x;simp only[qt];by_cases h:ru k a=true
  ·rw[if_pos h]
   have:=tq.1 h;subst this;simp only[Ah];split
   ·simp
   ·rfl
  ·rw[if_neg h]
   simp only[Ah];by_cases h2:ru b a=true
   ·have:=tq.1 h2
    subst this
    have h3:¬(ru b k=true):=fun q=>h (by have:=tq.1 q;subst this;exact tq.2 rfl)
    rw[if_neg h3,if_pos h2,if_pos h2]
   ·rw[if_neg h2,ih,if_neg h2]
def outs(es:List Ed)(b:Sp):List Sp:=(es.filter fun e=>ru b e.1).map (·.2)
def ins(es:List Ed)(b:Sp):List Sp:=(es.filter fun e=>ru b e.2).map (·.1)
theorem ahb(f:Ed→Sp×Sp)(b:Sp)(es:List Ed):Ah b (es.foldl (fun L e=>qt (f e).1 (f e).2 L) [])=if(es.filter fun e=>ru b (f e).1)=[]then none else some ((es.filter fun e=>ru b (f e).1).map fun e=>(f e).2):=by
 have:∀r:List Ed,Ah b ((r.reverse).foldl (fun L e=>qt (f e).1 (f e).2 L) [])=if(r.reverse.filter fun e=>ru b (f e).1)=[]then none else some ((r.reverse.filter fun e=>ru b (f e).1).map fun e=>(f e).2):=by
  intro r
  induction r with
  |nil=>rfl
  |cons e r ih=>
   rw[qm,pw,axq];simp only[ya,aE0,ag3,ih,a69,List.filter_nil];by_cases h:ru b (f e).1=true
   ·simp only[h,if_true,List.append_eq_nil_iff,List.cons_ne_self,and_false,if_false,fb,cu,ez]
    split
    ·rename_i h0;rw[h0];rfl
    ·rfl
   ·simp only[h,if_false,th,ec]
 have h:=this es.reverse
 rwa[Cp]at h
theorem atd(b:Sp)(es:List Ed)(h:∃e∈es,e.1=b):Ah b (zu es)=some (outs es b):=by
 have:=ahb (fun e=>(e.1,e.2)) b es
 unfold zu outs;rw[this,if_neg];obtain⟨e,he,rfl⟩:=h;intro h0
 have:e∈es.filter fun e'=>ru e.1 e'.1:=Kp.2 ⟨he,tq.2 rfl⟩
 rw[h0]at this;simp at this
theorem aon(b:Sp)(es:List Ed)(h:∃e∈es,e.2=b):Ah b (Ga es)=some (ins es b)∧ins es b≠[]:=by
 have:=ahb (fun e=>(e.2,e.1)) b es
 obtain⟨e,he,rfl⟩:=h
 have hm:e∈es.filter fun e'=>ru e.2 e'.2:=Kp.2 ⟨he,tq.2 rfl⟩
 have kg:(es.filter fun e'=>ru e.2 e'.2)≠[]:=fun h0=>by rw[h0]at hm;simp at hm
 unfold Ga ins;rw[this,if_neg kg]
 exact⟨rfl,by simpa using kg⟩
theorem Oj{es:List Ed}{b x:Sp}:x∈outs es b↔(b,x)∈es:=by
 unfold outs;rw[jc];constructor
 ·rintro⟨e,he,rfl⟩
  obtain⟨h1,h2⟩:=Kp.1 he;have:=tq.1 h2;subst this;exact h1
 ·intro h
  exact⟨(b,x),Kp.2 ⟨h,tq.2 rfl⟩,rfl⟩
theorem aAv{es:List Ed}{b x:Sp}:x∈ins es b↔(x,b)∈es:=by
 unfold ins;rw[jc];constructor
 ·rintro⟨e,he,rfl⟩
  obtain⟨h1,h2⟩:=Kp.1 he;have:=tq.1 h2;subst this;exact h1
 ·intro h
  exact⟨(x,b),Kp.2 ⟨h,tq.2 rfl⟩,rfl⟩
theorem a7j(b fr:Sp):∀(r:List Sp) (h:Sp),r.foldl (so b fr) h∈h::r:=by
 intro r
 induction r with
 |nil=>intro h;simp
 |cons x t ih=>
  intro h;rw[ya];have:=ih (so b fr h x)
  have hn:so b fr h x=h∨so b fr h x=x:=by unfold so;split<;>simp
  rcases hn with hn|hn<;>rw[hn]at this⊢
  ·rcases dn.1 this with h1|h1
   ·rw[h1];simp
   ·simp[h1]
  ·exact aq7 _ this
theorem aea(h:Sp)(r:List Sp)(a b:Sp):a0n (h::r) a b∈h::r:=a7j b (jq a b) r h
def I9(es:List Ed):Prop:=(∀e∈es,∃f∈es,f.1=e.2)∧∀e∈es,∃f∈es,f.2=e.1
def Zg(es:List Ed)(e:Ed):Ed:=(e.2,a0n (outs es e.2) e.1 e.2)
theorem abj{es:List Ed}(hc:I9 es){e:Ed}(he:e∈es):Zg es e∈es:=by
 obtain⟨f,hf,h1⟩:=hc.1 e he;unfold Zg
 have hm:f.2∈outs es e.2:=Oj.2 (by rw[←h1];exact hf)
 cases ho:outs es e.2 with
 |nil=>rw[ho]at hm;simp at hm
 |cons h r=>exact Oj.1 (by rw[ho];exact aea h r e.1 e.2)
def xw(es:List Ed):Nat→List Ed→Ed→List Sp×List Ed
 |0,u,_=>([],u)
 |n+1,u,e=>if Ki u e then([],u)else((e.1::(xw es n (u++[e]) (Zg es e)).1),(xw es n (u++[e]) (Zg es e)).2)
theorem Jp{u:List Ed}{e:Ed}:Ki u e=true↔e∈u:=by
 unfold Ki;rw[Dh];constructor
 ·rintro⟨f,hf,h⟩
  have:e=f:=by
   unfold Vp at h;simp only[cd,beq_iff_eq]at h;exact Jg (Jg h.1 h.2.1) (Jg h.2.2.1 h.2.2.2)
  subst this;exact hf
 ·intro h
  exact⟨e,h,by simp[Vp]⟩
theorem aji{α:Type}[DecidableEq α]:∀{u es:List α},u.Nodup→(∀x∈u,x∈es)→u.length≤es.length:=by
 intro u
 induction u with
 |nil=>intro es _ _;simp
 |cons x r ih=>
  intro es hn hs;rw[List.nodup_cons]at hn
  have h1:=ih (es:=es.erase x) hn.2 fun y hy=>(List.mem_erase_of_ne (fun h=>by subst h;exact hn.1 hy)).2 (hs y (by simp[hy]))
  have h2:=List.length_erase_of_mem (hs x (by simp))
  have h3:=List.length_pos_of_mem (hs x (by simp))
  simp only[bq];omega
def xc(es:List Ed)(x:List Ed×List (List Sp))(s:Ed):List Ed×List (List Sp):=
 if Ki x.1 s then x else((xw es (es.length+1) x.1 s).2,x.2++[J3 (zu es) (Ga es) (xw es (es.length+1) x.1 s).1])
def u6(es:List Ed)(k:Nat):List Ed×List (List Sp):=(es.take k).foldl (xc es) ([],[])
theorem Yf{es:List Ed}{k:Nat}(h:k<es.length):u6 es (k+1)=xc es (u6 es k) (es.getD k e0):=by
 unfold u6;rw[ey,pw];simp[h,bn]
end Go.PI
namespace Go.PI
open Go Go.Proofs
theorem Uf{es:List Ed}(hc:I9 es):∀(n:Nat) (u:List Ed) (e:Ed),u.Nodup→(∀x∈u,x∈es)→e∈es→
  (xw es n u e).2.Nodup∧(∀x∈(xw es n u e).2,x∈es)∧(xw es n u e).1.length≤n∧∀p∈(xw es n u e).1,∃f∈es,f.1=p:=by
 intro n
 induction n with
 |zero=>intro u e h1 h2 _;exact⟨h1,h2,by simp[xw],by simp[xw]⟩
 |succ n ih=>
  intro u e h1 h2 he;unfold xw;split
  ·exact⟨h1,h2,by simp,by simp⟩
  ·rename_i hm
   have hn:e∉u:=fun h=>hm (Jp.2 h)
   obtain⟨k1,k2,k3,k4⟩:=ih (u++[e]) (Zg es e) (by
    rw[a98]
    exact⟨h1,by simp,fun x hx y hy=>by simp at hy;subst hy;exact fun q=>hn (q▸hx)⟩) (fun x hx=>by
    rcases oo.1 hx with hx|hx
    ·exact h2 x hx
    ·simp at hx;subst hx;exact he) (abj hc he)
   refine⟨k1,k2,by simp only[bq];omega,fun p hp=>?_⟩
   rcases dn.1 hp with rfl|hp
   ·exact⟨e,he,rfl⟩
   ·exact k4 p hp
theorem ai4{es:List Ed}{n:Nat}{u:List Ed}{e:Ed}(h:Ki u e=false):(xw es (n+1) u e).1≠[]:=by
 unfold xw;rw[h];simp
theorem Pt{es:List Ed}(hc:I9 es):∀k,k≤es.length→(u6 es k).1.Nodup∧(∀x∈(u6 es k).1,x∈es)∧(u6 es k).2.length≤k∧∀l∈(u6 es k).2,l.length≤es.length+1:=by
 intro k
 induction k with
 |zero=>intro _;simp[u6]
 |succ k ih=>
  intro hk
  obtain⟨h1,h2,h3,h4⟩:=ih (by omega)
  rw[Yf (by omega)]
  unfold xc;split
  ·exact⟨h1,h2,by omega,h4⟩
  ·have hm:es.getD k e0∈es:=by
    have:es.getD k e0=es[k]'(by omega):=by simp[bn,show k<es.length by omega]
    rw[this];exact bz _
   obtain⟨k1,k2,k3,k4⟩:=Uf hc (es.length+1) _ _ h1 h2 hm
   refine⟨k1,k2,by simp only[cb,bq,dh];omega,fun l hl=>?_⟩
   rcases oo.1 hl with hl|hl
   ·exact h4 l hl
   ·simp only[Ua]at hl
    subst hl;unfold J3;rw[Mr];exact gn (Im _ _) k3
theorem Zw(f:Ed→Sp×Sp)(es:List Ed):∀p∈es.foldl (fun L e=>qt (f e).1 (f e).2 L) [],∀q∈p.2,∃e∈es,(f e).2=q:=by
 have put:∀(k v:Sp) (L:Adj) (Q:Sp→Prop),(∀p∈L,∀q∈p.2,Q q)→Q v→∀p∈qt k v L,∀q∈p.2,Q q:=by
  intro k v L Q
  induction L with
  |nil=>intro _ hv p hp q hq;simp[qt]at hp;subst hp;simp at hq;subst hq;exact hv
  |cons x r ih=>
   obtain⟨a,l⟩:=x;intro h hv p hp q hq;simp only[qt]at hp;split at hp
   ·rcases dn.1 hp with rfl|hp
    ·rcases oo.1 hq with hq|hq
     ·exact h (a,l) (by simp) q hq
     ·simp at hq;subst hq;exact hv
    ·exact h p (by simp[hp]) q hq
   ·rcases dn.1 hp with rfl|hp
    ·exact h (a,l) (by simp) q hq
    ·exact ih (fun p hp=>h p (by simp[hp])) hv p hp q hq
 have:∀r:List Ed,∀p∈(r.reverse).foldl (fun L e=>qt (f e).1 (f e).2 L) [],∀q∈p.2,∃e∈r,(f e).2=q:=by
  intro r
  induction r with
  |nil=>intro p hp;simp at hp
  |cons e r ih=>
   rw[qm,pw];simp only[ya,aE0]
   exact put _ _ _ (fun q=>∃e'∈e::r,(f e').2=q) (fun p hp q hq=>by obtain⟨e',h1,h2⟩:=ih p hp q hq;exact⟨e',by simp[h1],h2⟩) ⟨e,by simp,rfl⟩
 intro p hp q hq
 obtain⟨e,h1,h2⟩:=this es.reverse p (by rw[Cp];exact hp) q hq
 exact⟨e,by simpa using h1,h2⟩
theorem uc.rb{s:PS}{id sz:Nat}{els:List (List D)}{v:V}{ids:List Nat}(h:uc s id sz els v)(kg:ids≠[])(hi:id∉ids):uc (s.rb ids) id sz els (v.rb s ids):=by
 rcases h with ⟨h1,rfl⟩|⟨h1,rfl,h3⟩
 ·exact .inl ⟨h1,rfl⟩
 ·refine .inr ⟨h1,?_,?_⟩
  ·rw[Zv kg]
   simp only[V.rb,C.rb,if_neg hi,C.toV]
  ·rw[I1 kg hi]
   simp only[Ea,h3]
theorem ax5(s:PS)(ids:List Nat)(u:List Ed):(u.map cM).map (fun e=>(e.1,C.rb s ids e.2))=u.map cM:=by
 rw[aEt]
 exact Mv fun e _=>rfl
theorem aAu(L:Adj):(Oz L).one=true:=rfl
section
variable{P:Program}(A:Pr3 P){ρ:aG3}
def a2w(mo mi:List (D×D))(es:List Ed)(out:List (List Sp))(i:Nat)(s':PS):Prop:=
 s'.base=0∧s'.tmp 2= .dv 2 (s'.ver 2) 0∧s'.bm 2=some (.loc [.d .bd])∧s'.tmp 3= .dv 3 (s'.ver 3) 0∧s'.bm 3=some (.loc [.d (.map mo),.d (.map mi)])∧
 s'.tmp 4= .ku 12 (s'.ver 12)∧s'.tmp 13= .d (.dt 4 (es.map Bk))∧s'.tmp 14= .d (.int .i64 es.length)∧s'.tmp 15= .d (.int .i64 i)∧uc s' 49 1 (out.map fun l=>[se l]) (s'.tmp 5)
theorem a9w(L:aGl P ρ)(hρ:ρ.f 6=A.ew)(es:List Ed)(hes:es.length≤1000)(hc:I9 es)(hsm:∀e∈es,SmL e.1∧SmL e.2):
  fp P A.s5 [Oy es] (.agg [if(u6 es es.length).2=[]then .bd else jv (uh (u6 es es.length).2)]):=by
 refine cy A.mo A.Sf (by simp) ?_
 show jd P (F2 A.qw A.xa A.lz A.kj) (kf _ _) _
 have hn:=agj A es (by omega)
 obtain⟨mo,hmo⟩:∃m,Oz (zu es)= .map m:=⟨_,rfl⟩;obtain⟨mi,hmi⟩:∃m,Oz (Ga es)= .map m:=⟨_,rfl⟩;simp only[Oy,atp,hmo,hmi]at hn;simp only[F2,Oy,go_sem,aa,reduceCtorEq];refine ee hn ?_;simp only[go_sem,aa,ab,reduceCtorEq]
 refine rv (fun s'=>a2w mo mi es (u6 es es.length).2 es.length s') ?_ ?_
 ·refine dq es.length (fun i s'=>a2w mo mi es (u6 es i).2 i s'∧s'.mp 12=some ((u6 es i).1.map cM)) ?_ ?_
  ·simp only[a2w,go_sem,aa,ae]
   exact⟨uc.nil,rfl⟩
  ·rintro i s' hi ⟨⟨eb,f2,b2,f3,b3,f4,f13,f14,f15,acc⟩,m12⟩
   by_cases iy:(i:Int)<es.length
   ·have cj:i<es.length:=by omega
    have wi:=br ((i:Int)+1) (by omega) (by omega)
    have hg:=Bn cj
    have hgm:es.getD i e0∈es:=by
     have:es.getD i e0=es[i]:=by simp[bn,cj]
     rw[this];exact bz _
    obtain⟨u1,u2,u3,u4⟩:=Pt hc i (by omega)
    have Y9:=Yf cj;unfold xc at Y9
    generalize hs0:es.getD i e0=s0 at*
    have hlk:=Zs s0 (u6 es i).1;simp only[Bk]at hlk;cases hm:Ki (u6 es i).1 s0
    ·rw[hm]at Y9 hlk
     simp only[ec,if_false]at Y9 hlk;simp only[go_sem,aa,ab,reduceCtorEq,PS.ents,ax,I2,eb,f4,f13,f14,f15,m12,iy,hg,toNat_cast,aj,hlk]
     refine rv (fun s2=>a2w mo mi es (u6 es i).2 i s2∧s2.mp 12=some ((xw es (es.length+1) (u6 es i).1 s0).2.map cM)∧uc s2 42 2 ((xw es (es.length+1) (u6 es i).1 s0).1.map zm) (s2.tmp 8)) ?_ ?_
     ·refine dq (es.length+1) (fun k s2=>∃(u:List Ed) (e:Ed) (ac:List Sp),a2w mo mi es (u6 es i).2 i s2∧s2.mp 12=some (u.map cM)∧s2.tmp 9= .dv 9 (s2.ver 9) 0∧s2.bm 9=some (.loc [.d (.int .i64 e.1.1),.d (.int .i64 e.1.2),.d (.int .i64 e.2.1),.d (.int .i64 e.2.2)])∧uc s2 42 2 (ac.map zm) (s2.tmp 8)∧
       u.Nodup∧(∀x∈u,x∈es)∧e∈es∧u.length=(u6 es i).1.length+k∧ac.length=k∧xw es (es.length+1) (u6 es i).1 s0=(ac++(xw es (es.length+1-k) u e).1,(xw es (es.length+1-k) u e).2)) ?_ ?_
      ·refine⟨(u6 es i).1,s0,[],?_⟩
       simp only[a2w,go_sem,aa,f2,b2,f3,b3,f4,f13,f14,f15,m12]
       refine⟨acc.mono (by simp[al]) (by simp[al]),?_⟩
       exact⟨uc.nil,u1,u2,hgm,rfl⟩
      ·clear eb f2 b2 f3 b3 f4 f13 f14 f15 acc m12
       rintro k s2 hk ⟨u,e,ac,⟨eb,f2,b2,f3,b3,f4,f13,f14,f15,acc⟩,m12,f9,b9,a92,v1,v2,v3,v4,v5,v6⟩;have hul:=aji v1 v2
       have hkn:k<es.length+1:=by omega
       obtain⟨n,hn2⟩:∃n,es.length+1-k=n+1:=⟨es.length-k,by omega⟩
       have hn3:es.length+1-(k+1)=n:=by omega
       have aes:=Zs e u;simp only[Bk]at aes
       have ht:xw es (n+1) u e=if Ki u e then([],u)else((e.1::(xw es n (u++[e]) (Zg es e)).1),(xw es n (u++[e]) (Zg es e)).2):=rfl
       rw[hn2,ht]at v6;cases hme:Ki u e
       ·rw[hme]at v6 aes
        simp only[ec,if_false]at v6 aes;have To:=amx e u hme;simp only[Bk]at To;simp only[go_sem,aa,bx,ab,ag,ca,PS.ents,ax,I2,eb,f4,m12,f9,b9,aes,To]
        refine r8 (els:=ac.map zm) (ys:=[zm e.1]) (osz:=some 2) ?_ ?_ rfl rfl ?_ (by simp) ?_
        ·simp only[go_sem,aa]
         exact a92.mono (by simp[al]) (by simp[al])
        ·simp only[go_sem,aa,ov]
         rfl
        ·simp only[ae,bq,dh]
         omega
        ·intro s3 g
         have ha2:=g.acc (by simp)
         rw[g.tmp,bh]at ha2;simp only[eh]at ha2
         have gv2:=g.ver 2 (by simp[])
         have gv3:=g.ver 3 (by simp[])
         have gv9:=g.ver 9 (by simp[])
         have aom:=g.ver 12 (by simp[])
         have azj:=g.ver 49 (by simp[])
         have gb2:s3.bm 2=s2.bm 2:=by rw[g.bm];simp[al]
         have gb3:s3.bm 3=s2.bm 3:=by rw[g.bm];simp[al]
         have gb9:s3.bm 9=s2.bm 9:=by rw[g.bm];simp[al]
         have aCq:s3.bm 49=s2.bm 49:=by rw[g.bm];simp[al]
         have gm:s3.mp 12=some ((u++[e]).map cM):=by rw[g.mp];simp[al]
         simp only[al,aa,reduceIte]at gv2 gv3 gv9 aom azj;obtain⟨fo,hfo,azf⟩:=hc.1 e v3;have hgo:=atd e.2 es ⟨fo,hfo,azf⟩
         obtain⟨hh,hr,hhr⟩:∃hh hr,outs es e.2=hh::hr:=by
          cases ho:outs es e.2 with
          |nil=>have:=Oj.2 (show(e.2,fo.2)∈es by rw[←azf];exact hfo);rw[ho]at this;simp at this
          |cons a r=>exact⟨a,r,rfl⟩
         have Yz:∀x∈hh::hr,SmL x:=fun x hx=>(hsm _ (Oj.1 (by rw[hhr];exact hx))).2
         rw[hhr]at hgo;have hol:=Rt es;obtain⟨ka,hka⟩:=U9 hgo;have hrl:=hol.2 _ hka;simp only[bq]at hrl
         have hnx:=avf A (O:=zu es) (I:=Ga es) e.1 e.2 hh hr (hsm e v3).1 (hsm e v3).2 (Yz hh (by simp)) (fun q hq=>Yz q (by simp[hq])) (by omega) hgo
         rw[hmo,hmi]at hnx;simp only[vt]at hnx
         have aCb:Zg es e=(e.2,a0n (hh::hr) e.1 e.2):=by unfold Zg;rw[hhr]
         simp only[go_sem,aa,bx,df,da,de,ab,ag,g.tmp,g.base,f3,b3,f9,b9,gv3,gv9,gb3,gb9];refine Et hnx ?_;simp only[a2w,go_sem,aa,ab,ag,f2,b2,f3,b3,f4,f13,f14,f15,f9,b9,gv2,gv3,gv9,aom,gb2,gb3,gb9,gm,hkn]
         have aC1:e∉u:=fun h=>by rw[Jp.2 h]at hme;cases hme
         refine⟨u++[e],Zg es e,ac++[e.1],acc.mono ?_ ?_,rfl,by rw[aCb],?_,?_,?_,abj hc v3,by simp only[cb,bq,dh];omega,by simp only[cb,bq,dh];omega,?_⟩
         ·simp only[al,aa,reduceIte,azj]
         ·simp only[al,aa,reduceIte,aCq]
         ·rw[fb]
          exact ha2.mono (by simp[al]) (by simp[al])
         ·rw[a98]
          exact⟨v1,by simp,fun x hx y hy=>by simp at hy;subst hy;exact fun q=>aC1 (q▸hx)⟩
         ·intro x hx
          rcases oo.1 hx with hx|hx
          ·exact v2 x hx
          ·simp at hx;subst hx;exact v3
         ·rw[v6,hn3]
          simp
       ·rw[hme]at v6 aes
        simp only[if_true]at v6 aes;simp only[a2w,go_sem,aa,ab,reduceCtorEq,PS.ents,ax,I2,eb,f2,b2,f3,b3,f4,f13,f14,f15,m12,f9,b9,aes,v6,th];exact⟨acc.mono rfl rfl,a92.mono rfl rfl⟩
     ·clear eb f2 b2 f3 b3 f4 f13 f14 f15 acc m12
      rintro s2 ⟨⟨eb,f2,b2,f3,b3,f4,f13,f14,f15,acc⟩,m12,a92⟩;have hl0:=ai4 (es:=es) (n:=es.length) hm;obtain⟨w1,w2,w3,w4⟩:=Uf hc (es.length+1) _ _ u1 u2 hgm
      generalize hT:xw es (es.length+1) (u6 es i).1 s0=T at*
      obtain⟨l,uf⟩:=T;simp only at hl0 w1 w2 w3 w4 Y9 m12 a92;rcases a92 with ⟨h0,_⟩|⟨_,f8,b42⟩
      ·exact absurd (by simpa using h0) hl0
      ·simp only[go_sem]
       refine Qg [42] ?_
       have kg:[42]≠[]:=by simp
       have n2:=Fv (s:=s2) kg 2;have n3:=Fv (s:=s2) kg 3;have n4:=Fv (s:=s2) kg 4;have n8:=Fv (s:=s2) kg 8;have n13:=Fv (s:=s2) kg 13;have n14:=Fv (s:=s2) kg 14;have n15:=Fv (s:=s2) kg 15;have n5:=Fv (s:=s2) kg 5
       have nb2:=I1 (s:=s2) kg (i:=2) (by simp)
       have nb3:=I1 (s:=s2) kg (i:=3) (by simp)
       have nm:=a8a (s:=s2) kg (i:=12) (by simp)
       have nv:=Zv (s:=s2) kg;have auf:=R1 [42] s2
       have awa:=acc.rb kg (by simp)
       have aCf:s2.els 42 (s2.ver 42)=some (2,l.map zm):=by unfold PS.els;rw[if_pos rfl,b42]
       rw[eb]at auf;simp only[f2,f3,f4,f8,f13,f14,f15,V.rb,C.rb,C.toV,dn,jg,or_false,aa,if_false,if_true,aCf]at n2 n3 n4 n8 n13 n14 n15;simp only[Ea,b2,b3,cu,ez,C.rb]at nb2 nb3;simp only[a5n,m12,gz,ax5]at nm;rw[←n5]at awa
       generalize s2.rb [42]=s4 at*
       rw[←nv]at n2 n3 n4
       have hbg:=agn A (O:=zu es) (I:=Ga es) l hl0 (by omega) (fun p hp=>by
        obtain⟨f,hf,rfl⟩:=w4 p hp;refine⟨(hsm f hf).1,?_⟩;obtain⟨gg,hgg,hg2⟩:=hc.2 f hf;obtain⟨k1,k2⟩:=aon f.1 es ⟨gg,hgg,hg2⟩;obtain⟨a,li,hal⟩:=axr k2
        exact⟨a,li,by rw[k1,hal]⟩) (fun p hp=>⟨gn ((Rt es).2 p hp) (by omega),fun q hq=>?_⟩) (fun p hp q hq=>?_)
       ·rw[hmo,hmi]at hbg
        simp only[se]at hbg;have hll:(l.map zm).length=l.length:=ae _;simp only[go_sem,aa,ab,auf,n3,n8,nb3];refine gf hbg ?_
        have aDs:∀(tm:Nat→V),uc {s4 with tmp:=tm} 49 1 ((u6 es i).2.map fun l=>[se l]) (s4.tmp 5):=fun tm=>awa.mono rfl rfl
        simp only[go_sem,aa,ca]
        refine r8 (els:=(u6 es i).2.map fun l=>[se l]) (ys:=[[se (J3 (zu es) (Ga es) l)]]) (osz:=some 1) ?_ ?_ rfl rfl ?_ (by simp) ?_
        ·simp only[go_sem,aa]
         exact awa.mono (by simp[al]) (by simp[al])
        ·simp only[go_sem,aa,ov]
         rfl
        ·simp only[ae,bq,dh]
         omega
        ·intro s3 g
         have ha2:=g.acc (by simp)
         rw[g.tmp,bh]at ha2;simp only[eh]at ha2
         have gv2:=g.ver 2 (by simp[])
         have gv3:=g.ver 3 (by simp[])
         have aom:=g.ver 12 (by simp[])
         have gb2:s3.bm 2=s4.bm 2:=by rw[g.bm];simp[al]
         have gb3:s3.bm 3=s4.bm 3:=by rw[g.bm];simp[al]
         have gm:s3.mp 12=s4.mp 12:=by rw[g.mp]
         simp only[al,aa,reduceIte]at gv2 gv3 aom;simp only[a2w,go_sem,aa,reduceCtorEq,g.tmp,g.base,n2,n3,n4,n13,n14,n15,nb2,nb3,nm,gv2,gv3,aom,gb2,gb3,gm,wi,cj,Y9]
         refine⟨by rw[jz];rfl,?_⟩
         rw[fb];exact ha2.mono rfl rfl
       ·obtain⟨e,he,rfl⟩:=Zw (fun e=>(e.1,e.2)) es p hp q hq
        exact(hsm e he).2
       ·obtain⟨e,he,rfl⟩:=Zw (fun e=>(e.2,e.1)) es p hp q hq
        exact(hsm e he).1
    ·rw[hm]at Y9 hlk
     simp only[if_true]at Y9 hlk;simp only[a2w,go_sem,aa,ab,reduceCtorEq,PS.ents,ax,I2,eb,f2,b2,f3,b3,f4,f13,f14,f15,m12,iy,hg,toNat_cast,aj,hlk,wi,cj,Y9]
     exact⟨by rw[jz];rfl,acc.mono (by simp[al]) (by simp[al])⟩
   ·have:i=es.length:=by omega
    subst this;simp only[a2w,go_sem,aa,reduceCtorEq,eb,f2,b2,f3,b3,f4,f13,f14,f15,iy];exact acc.mono rfl rfl
 ·rintro s' ⟨eb,f2,b2,f3,b3,f4,f13,f14,f15,acc⟩
  obtain⟨_,_,c3,c4⟩:=Pt hc es.length (ar _)
  generalize(u6 es es.length).2=out at*
  rcases acc with ⟨h0,f5⟩|⟨h0,f5,b49⟩
  ·have h0':out=[]:=by simpa using h0
   rw[if_pos h0'];simp only[go_sem,eb,f5];refine iu (Xx A L hρ _ 1000) ?_;simp only[go_sem,aa,PS.gl,PS.mem,f2,b2]
  ·have h0':¬out=[]:=by simpa using h0
   rw[if_neg h0'];simp only[go_sem,eb,f5,ae]
   refine iu (a9v A L hρ out (by omega) (fun l hl=>gn (c4 l hl) (by omega)) (by simp only[PS.mem];exact b49) rfl 1000) ?_
   have aba:(uh out).length=out.length:=(C8 out).length_eq;simp only[go_sem,aa,PS.gl,PS.mem,Rp,f2,b2,jv,ae,aba,beq_self_eq_true]
end
def okL(l:List Sp):Bool:=decide (3≤l.length)&&l.all Dq
def C9(ls:List (List Sp)):List (List Sp):=ls.map (J3 (zu (fl ls)) (Ga (fl ls)))
def Il(ls:List (List Sp)):List (List Sp):=(u6 (fl ls) (fl ls).length).2
def a07(ls:List (List Sp)):Bool:=decide (tj ls≤60)&&decide (ls.length≤60)
def Ew(ls:List (List Sp)):Bool:=a07 ls&&(ls.all okL&&(P7 (fl ls)&&(Pv (fl ls)&&decide (uh (C9 ls)=uh (Il ls)))))
def ace(ls:List (List Sp)):D:=if Il ls=[]then .bd else jv (uh (Il ls))
theorem Pq{ls:List (List Sp)}(h:∀l∈ls,3≤l.length):I9 (fl ls):=by
 have at_:∀(l:List Sp) (k:Nat),l∈ls→k<l.length→yo l k∈fl ls:=by
  intro l k hl hk;unfold fl;rw[M9]
  exact⟨l,hl,by unfold i7;exact jc.2 ⟨k,du.2 hk,rfl⟩⟩
 have of:∀e∈fl ls,∃l∈ls,∃k,k<l.length∧e=yo l k:=by
  intro e he;unfold fl at he;obtain⟨l,hl,he⟩:=M9.1 he;unfold i7 at he;obtain⟨k,hk,rfl⟩:=jc.1 he;exact⟨l,hl,k,du.1 hk,rfl⟩
 refine⟨fun e he=>?_,fun e he=>?_⟩
 ·obtain⟨l,hl,k,hk,rfl⟩:=of e he
  exact⟨_,at_ l ((k+1)%l.length) hl (a30 _ (by omega)),rfl⟩
 ·obtain⟨l,hl,k,hk,rfl⟩:=of e he
  refine⟨_,at_ l ((k+(l.length-1))%l.length) hl (a30 _ (by omega)),?_⟩
  have h3:=h l hl
  have:((k+(l.length-1))%l.length+1)%l.length=k:=by
   rw[Nat.mod_add_mod,show k+(l.length-1)+1=k+l.length by omega,Nat.add_mod_right]
   exact a63 hk
  show l.getD (((k+(l.length-1))%l.length+1)%l.length) (0,0)=l.getD k (0,0);rw[this]
theorem afs(es:List Ed)(x:List Ed×List (List Sp))(l:List Ed):x.2.length≤(l.foldl (xc es) x).2.length:=by
 induction l generalizing x with
 |nil=>exact ar _
 |cons e r ih=>
  rw[ya];refine gn ?_ (ih _);unfold xc;split
  ·exact ar _
  ·simp
theorem apd{es:List Ed}(h:es≠[]):(u6 es es.length).2≠[]:=by
 cases es with
 |nil=>exact absurd rfl h
 |cons e r=>
  intro h0;have:=afs (e::r) (xc (e::r) ([],[]) e) r;unfold u6 at h0;rw[eo,ya]at h0;rw[h0]at this;simp[xc,Ki]at this
theorem ap1{ls:List (List Sp)}(h:ls≠[])(h3:∀l∈ls,3≤l.length):fl ls≠[]:=by
 intro h0;have hl:=L9 ls;rw[h0]at hl
 cases ls with
 |nil=>exact h rfl
 |cons l r=>
  have:=h3 l (by simp)
  simp[tj]at hl;omega
theorem a5y{ls:List (List Sp)}(h3:∀l∈ls,3≤l.length):Il ls=[]↔ls=[]:=by
 constructor
 ·intro h
  by_cases h0:ls=[]
  ·exact h0
  ·exact absurd h (apd (ap1 h0 h3))
 ·rintro rfl;rfl
theorem a7l{ls:List (List Sp)}{l:List Sp}(h:l∈ls):l.length≤tj ls:=by
 unfold tj
 induction ls with
 |nil=>simp at h
 |cons x r ih=>
  simp only[cu,aFz];rcases dn.1 h with rfl|h
  ·omega
  ·have:=ih h;omega
theorem anq{ls:List (List Sp)}{l:List Sp}{s:Sp}(hl:l∈ls)(hs:s∈l):∃e∈fl ls,e.1=s:=by
 obtain⟨k,hk,rfl⟩:=fj.1 hs;refine⟨yo l k,?_,?_⟩
 ·unfold fl
  rw[M9]
  exact⟨l,hl,by unfold i7;exact jc.2 ⟨k,du.2 hk,rfl⟩⟩
 ·unfold yo
  simp[bn,hk]
theorem aj6(l:List Sp):((cq l.length).any fun i=> !Dq (l.getD i (0,0)))= !(l.all Dq):=by
 rw[Q4];simp only[Dh,du,wg,Zj];constructor
 ·rintro⟨i,hi,h⟩
  refine⟨l[i],bz _,?_⟩
  have:l.getD i (0,0)=l[i]:=by simp[bn,hi]
  rw[this]at h;simp[h]
 ·rintro⟨x,hx,h⟩
  obtain⟨i,hi,rfl⟩:=fj.1 hx;refine⟨i,hi,?_⟩
  have:l.getD i (0,0)=l[i]:=by simp[bn,hi]
  rw[this];simpa using h
def apw(ls:List (List Sp))(s':PS):Prop:=
 s'.base=0∧s'.tmp 1= .dv 1 (s'.ver 1) 0∧s'.bm 1=some (.loc [.d (.dt 1 (ls.map fun l=>[se l]))])∧s'.tmp 2= .dv 2 (s'.ver 2) 0∧s'.bm 2=some (.loc [.d .bd])
section
variable{P:Program}(A:Pr3 P){ρ:aG3}
theorem avd(L:aGl P ρ)(hρ:ρ.f 6=A.ew)(ls:List (List Sp))(h1:ls.length≤2^30)(h2:∀l∈ls,l.length≤2^30):
  fp P A.C1 [.agg [jv ls]] (.yi [if Ew ls then .agg [ace ls]else .agg [.bd],.int .i64 (if Ew ls then 0 else 170)]):=by
 refine cy A.mo A.a1i (by simp) ?_
 show jd P (Lm A.qk A.l5 A.x9 A.mu A.zg A.zh A.s5 A.qw A.lz A.kj A.fa A.fu) (kf _ _) _;have hsp:=aqq A.toPr ls h1 h2
 have eL:jv ls= .dt 1 (ls.map fun l=>[se l]):=rfl
 simp only[eL]at hsp;rw[eL];simp only[Lm,go_sem,aa];refine ee hsp ?_
 have szF:a07 ls=false→Ew ls=false:=fun h=>by unfold Ew;rw[h];rfl
 by_cases c1:(tj ls:Int)>60
 ·have hb:=szF (by unfold a07;rw[decide_eq_false (by omega)];rfl)
  rw[hb];simp only[go_sem,aa,reduceCtorEq,c1]
 ·by_cases c2:(ls.length:Int)>60
  ·have hb:=szF (by unfold a07;rw[decide_eq_false (show¬ls.length≤60 by omega),o9])
   rw[hb];simp only[go_sem,aa,reduceCtorEq,c1,c2,ae]
  ·simp only[go_sem,aa,reduceCtorEq,c1,c2,ae]
   refine rv (fun s'=>apw ls s'∧∀l∈ls,okL l=true) ?_ ?_
   ·refine dq ls.length (fun i s'=>apw ls s'∧s'.tmp 23= .d (.dt 1 (ls.map fun l=>[se l]))∧s'.tmp 24= .d (.int .i64 ls.length)∧s'.tmp 25= .d (.int .i64 i)∧∀k (h:k<ls.length),k<i→okL ls[k]=true) ?_ ?_
    ·simp only[apw,go_sem,aa]
     exact fun k _ h=>absurd h (aAp _)
    ·rintro i s' hi ⟨⟨eb,f1,b1,f2,b2⟩,f23,f24,f25,hI⟩
     by_cases iy:(i:Int)<ls.length
     ·have cj:i<ls.length:=by omega
      have wi:=br ((i:Int)+1) (by omega) (by omega)
      have hg:=Cf cj;have hli:=h2 _ (bz cj)
      have at9:okL ls[i]=false→Ew ls=false:=fun h=>by
       have:ls.all okL=false:=Zj.2 ⟨_,bz cj,by rw[h];simp⟩
       unfold Ew;rw[this];simp
      have aet:=ami A.toPr (l:=ls[i]) (g:=A.x9) (caps:=[]) (p:=fun k=> !Dq (ls[i].getD k (0,0))) (fun k hk=>by
       have:ls[i].getD k (0,0)=ls[i][k]:=by simp[bn,hk]
       rw[this]
       exact aqt A.toPr _) (by omega)
      rw[aj6]at aet;simp only[se]at aet;simp only[go_sem,aa,reduceCtorEq,eb,f23,f24,f25,iy,hg,toNat_cast,aj,ae];by_cases c3:(ls[i].length:Int)<3
      ·rw[at9 (by unfold okL;rw[decide_eq_false (show¬3≤ls[i].length by omega)];rfl)]
       simp only[go_sem,aa,f2,b2,c3]
      ·simp only[go_sem,aa,c3]
       refine gf aet ?_;cases c4:ls[i].all Dq
       ·rw[at9 (by unfold okL;rw[c4,o9])]
        simp only[go_sem,aa,f2,b2]
       ·simp only[apw,go_sem,aa,reduceCtorEq,f1,b1,f2,b2,f23,f24,f25,wi,cj]
        refine⟨by rw[jz];rfl,fun k hk hk2=>?_⟩
        rcases T4.1 hk2 with h|rfl
        ·exact hI k hk h
        ·unfold okL;rw[c4,decide_eq_true (show 3≤ls[k].length by omega)];rfl
     ·have:i=ls.length:=by omega
      subst this;simp only[apw,go_sem,aa,reduceCtorEq,eb,f1,b1,f2,b2,f24,f25,iy];intro l hl;obtain⟨k,hk,rfl⟩:=fj.1 hl;exact hI k hk hk
   ·rintro s' ⟨⟨eb,f1,b1,f2,b2⟩,hok⟩
    have h3:∀l∈ls,3≤l.length:=fun l hl=>by
     have:=hok l hl;unfold okL at this;simp only[cd,decide_eq_true_eq]at this;exact this.1
    have hsm:∀e∈fl ls,SmL e.1∧SmL e.2:=fun e he=>by
     obtain⟨l,hl,m1,m2⟩:=a5g he;have:=hok l hl;unfold okL at this;simp only[cd,ck]at this;exact⟨Og (this.2 _ m1),Og (this.2 _ m2)⟩
    have hcl:=Pq h3
    have hel:(fl ls).length≤60:=by rw[L9];omega
    have zx:ls.all okL=true:=ck.2 hok
    have C3:a07 ls=true:=by unfold a07;rw[decide_eq_true (by omega),decide_eq_true (by omega)];rfl
    have hpB:Ew ls=(P7 (fl ls)&&(Pv (fl ls)&&decide (uh (C9 ls)=uh (Il ls)))):=by unfold Ew;rw[zx,C3];rfl
    have hse:=adj A.toPr ls h1 (by omega)
    have hsi:=alw A.toPr (fl ls) (by omega) hsm
    have hbo:=am4 A.toPr (fl ls) (by omega) hsm
    rw[eL]at hse;simp only[Oy]at hse hsi hbo;simp only[go_sem,eb,f1,b1];refine ee hse ?_;simp only[go_sem,aa];refine ee hsi ?_;cases c5:P7 (fl ls)
    ·rw[c5]at hpB
     rw[hpB];simp only[go_sem,aa,f2,b2,cz]
    ·simp only[go_sem,aa]
     refine ee hbo ?_;cases c6:Pv (fl ls)
     ·rw[c5,c6]at hpB
      rw[hpB];simp only[go_sem,aa,f2,b2,cz,qu]
     ·rw[c5,c6]at hpB
      simp only[qu]at hpB
      have hca:=a9w A L hρ (fl ls) (by omega) hcl hsm
      have kg:=agj A (fl ls) (by omega)
      obtain⟨mo,hmo⟩:∃m,Oz (zu (fl ls))= .map m:=⟨_,rfl⟩;obtain⟨mi,hmi⟩:∃m,Oz (Ga (fl ls))= .map m:=⟨_,rfl⟩;simp only[Oy,atp,hmo,hmi]at hca kg;have at8:fp P A.s5 [.dt 4 ((fl ls).map Bk)] (.agg [ace ls]):=hca
      have hbg:∀l∈ls,fp P A.lz [.agg [.map mo,.map mi],.dt 2 (l.map zm)] (.dt 2 ((J3 (zu (fl ls)) (Ga (fl ls)) l).map zm)):=by
       intro l hl
       have iy:l.length≤60:=by
        have:=a7l hl;omega
       have:=agn A (O:=zu (fl ls)) (I:=Ga (fl ls)) l (fun h=>by have:=h3 l hl;rw[h]at this;simp at this) (by omega) (fun p hp=>?_) (fun p hp=>⟨gn ((Rt (fl ls)).2 p hp) (by omega),fun q hq=>?_⟩) (fun p hp q hq=>?_)
       ·rw[hmo,hmi]at this
        exact this
       ·obtain⟨e,he,rfl⟩:=anq hl hp
        refine⟨(hsm e he).1,?_⟩;obtain⟨gg,hgg,hg2⟩:=hcl.2 e he;obtain⟨k1,k2⟩:=aon e.1 (fl ls) ⟨gg,hgg,hg2⟩;obtain⟨a,li,hal⟩:=axr k2
        exact⟨a,li,by rw[k1,hal]⟩
       ·obtain⟨e,he,rfl⟩:=Zw (fun e=>(e.1,e.2)) (fl ls) p hp q hq
        exact(hsm e he).2
       ·obtain⟨e,he,rfl⟩:=Zw (fun e=>(e.2,e.1)) (fl ls) p hp q hq
        exact(hsm e he).1
      rcases(show(ls=[]∧ace ls= .bd)∨(ls≠[]∧ace ls= .dt 1 ((uh (Il ls)).map fun l=>[se l]))by
       unfold ace;by_cases hl0:ls=[]
       ·exact .inl ⟨hl0,if_pos ((a5y h3).2 hl0)⟩
       ·exact .inr ⟨hl0,if_neg fun h=>hl0 ((a5y h3).1 h)⟩)with ⟨hl0,hX⟩|⟨hl0,hX⟩
      ·rw[hX]at at8⊢
       simp only[go_sem,aa];refine ee at8 ?_;simp only[go_sem,aa];refine ee kg ?_;simp only[go_sem,aa,ab,f1,b1]
       have aC4:ls.length=0:=by rw[hl0];rfl
       simp only[ae,aC4]
       refine rv (fun s2=>s2.base=0∧s2.tmp 2= .dv 2 (s2.ver 2) 0∧s2.bm 2=some (.loc [.d .bd])∧s2.tmp 7= .dv 7 (s2.ver 7) 0∧s2.bm 7=some (.loc [.d .bd])∧s2.tmp 9= .d .bd) ?_ ?_
       ·refine dq 0 (fun i s2=>s2.base=0∧s2.tmp 2= .dv 2 (s2.ver 2) 0∧s2.bm 2=some (.loc [.d .bd])∧s2.tmp 7= .dv 7 (s2.ver 7) 0∧s2.bm 7=some (.loc [.d .bd])∧s2.tmp 9= .d .bd∧s2.tmp 55= .d (.int .i64 0)∧s2.tmp 56= .d (.int .i64 0)) ?_ ?_
        ·simp only[go_sem,aa,f2,b2]
        ·clear eb f1 b1 f2 b2
         rintro i s2 hi ⟨eb,f2,b2,f7,b7,f9,f55,f56⟩;simp only[go_sem,aa,reduceCtorEq,eb,f2,b2,f7,b7,f9,f55,f56]
       ·clear eb f1 b1 f2 b2
        rintro s2 ⟨eb,f2,b2,f7,b7,f9⟩
        have hd:decide (uh (C9 ls)=uh (Il ls))=true:=by subst hl0;exact decide_eq_true rfl
        rw[hd]at hpB;rw[hpB];simp only[go_sem]
        refine amt (fun s3=>s3.base=0∧s3.tmp 2= .dv 2 (s3.ver 2) 0∧s3.bm 2=some (.loc [.d .bd])∧s3.tmp 7= .dv 7 (s3.ver 7) 0∧s3.bm 7=some (.loc [.d .bd])∧s3.tmp 72= .d (.bool false)) ?_ ?_
        ·simp only[ad2,go_sem,aa,eb,f7,b7,f9]
         repeat' apply aGv
         all_goals
          refine iu (Xx A L hρ _ 1000) ?_;simp only[go_sem,aa,PS.gl,PS.mem,f7,b7];refine Et (adq A) ?_;simp only[go_sem,aa,f2,b2,f7,b7]
        ·clear eb f2 b2 f7 b7 f9
         rintro s3 ⟨eb,f2,b2,f7,b7,f72⟩;simp only[go_sem,aa,eb,f2,b2,f7,b7,f72]
      ·rw[hX]at at8⊢
       simp only[go_sem,aa];refine ee at8 ?_;simp only[go_sem,aa];refine ee kg ?_;simp only[go_sem,aa,ab,f1,b1,ae]
       refine rv (fun s2=>s2.base=0∧s2.tmp 2= .dv 2 (s2.ver 2) 0∧s2.bm 2=some (.loc [.d .bd])∧s2.tmp 7= .dv 7 (s2.ver 7) 0∧s2.bm 7=some (.loc [.d (.dt 1 ((uh (Il ls)).map fun l=>[se l]))])∧
        uc s2 65 1 ((C9 ls).map fun l=>[se l]) (s2.tmp 9)) ?_ ?_
       ·refine dq ls.length (fun i s2=>s2.base=0∧s2.tmp 1= .dv 1 (s2.ver 1) 0∧s2.bm 1=some (.loc [.d (.dt 1 (ls.map fun l=>[se l]))])∧s2.tmp 2= .dv 2 (s2.ver 2) 0∧s2.bm 2=some (.loc [.d .bd])∧s2.tmp 7= .dv 7 (s2.ver 7) 0∧s2.bm 7=some (.loc [.d (.dt 1 ((uh (Il ls)).map fun l=>[se l]))])∧
         s2.tmp 8= .dv 8 (s2.ver 8) 0∧s2.bm 8=some (.loc [.d (.map mo),.d (.map mi)])∧s2.tmp 54= .d (.dt 1 (ls.map fun l=>[se l]))∧s2.tmp 55= .d (.int .i64 ls.length)∧s2.tmp 56= .d (.int .i64 i)∧
         uc s2 65 1 ((C9 (ls)|>.take i).map fun l=>[se l]) (s2.tmp 9)) ?_ ?_
        ·simp only[go_sem,aa,f1,b1,f2,b2,ez]
         exact uc.nil
        ·clear eb f1 b1 f2 b2
         rintro i s2 hi ⟨eb,f1,b1,f2,b2,f7,b7,f8,b8,f54,f55,f56,acc⟩;by_cases iy:(i:Int)<ls.length
         ·have cj:i<ls.length:=by omega
          have wi:=br ((i:Int)+1) (by omega) (by omega)
          have hg:=Cf cj;have hb:=hbg ls[i] (bz _)
          have hot:(C9 ls).take (i+1)=(C9 ls).take i++[J3 (zu (fl ls)) (Ga (fl ls)) ls[i]]:=by
           unfold C9;rw[←J7,←J7,ey,fb];simp[cj]
          have hol:(C9 ls).length=ls.length:=by unfold C9;simp
          simp only[go_sem,aa,ab,reduceCtorEq,eb,f8,b8,f54,f55,f56,iy,hg,toNat_cast,aj];refine gf hb ?_;simp only[go_sem,aa,ca]
          refine r8 (els:=((C9 ls).take i).map fun l=>[se l]) (ys:=[[se (J3 (zu (fl ls)) (Ga (fl ls)) ls[i])]]) (osz:=some 1) ?_ ?_ rfl rfl ?_ (by simp) ?_
          ·simp only[go_sem,aa]
           exact acc.mono (by simp[al]) (by simp[al])
          ·simp only[go_sem,aa,ov]
           rfl
          ·simp only[ae,bq,dh,dd]
           omega
          ·intro s3 g
           have ha2:=g.acc (by simp)
           rw[g.tmp,bh]at ha2;simp only[eh]at ha2
           have gv1:=g.ver 1 (by simp[])
           have gv2:=g.ver 2 (by simp[])
           have gv7:=g.ver 7 (by simp[])
           have gv8:=g.ver 8 (by simp[])
           have gb1:s3.bm 1=s2.bm 1:=by rw[g.bm];simp[al]
           have gb2:s3.bm 2=s2.bm 2:=by rw[g.bm];simp[al]
           have gb7:s3.bm 7=s2.bm 7:=by rw[g.bm];simp[al]
           have gb8:s3.bm 8=s2.bm 8:=by rw[g.bm];simp[al]
           simp only[al,aa,reduceIte]at gv1 gv2 gv7 gv8;simp only[go_sem,aa,reduceCtorEq,g.tmp,g.base,f1,b1,f2,b2,f7,b7,f8,b8,f54,f55,f56,gv1,gv2,gv7,gv8,gb1,gb2,gb7,gb8,wi,cj,hot,fb]
           exact⟨by rw[jz];rfl,ha2.mono rfl rfl⟩
         ·have:i=ls.length:=by omega
          subst this
          have hol:(C9 ls).length=ls.length:=by unfold C9;simp
          rw[←hol,eo]at acc;simp only[go_sem,aa,reduceCtorEq,eb,f2,b2,f7,b7,f55,f56,iy];exact acc.mono rfl rfl
       ·clear eb f1 b1 f2 b2
        rintro s2 ⟨eb,f2,b2,f7,b7,acc⟩
        have hol:(C9 ls).length=ls.length:=by unfold C9;simp
        have hbl:∀l∈C9 ls,l.length≤2^20:=fun l hl=>by
         unfold C9 at hl;obtain⟨l',hl',rfl⟩:=jc.1 hl;unfold J3;rw[Mr];have:=a7l hl'
         exact gn (Im _ _) (by omega)
        obtain⟨_,_,k3,k4⟩:=Pt hcl (fl ls).length (ar _);have azh:(Il ls).length≤60:=gn k3 hel;have hsl:=(C8 (C9 ls)).length_eq;have hsc:=(C8 (Il ls)).length_eq
        have hEq:=aa4 A (uh (C9 ls)) (uh (Il ls)) (by omega) (by omega) (fun l hl=>gn (hbl l ((C8 _).mem_iff.1 hl)) (by omega)) (fun l hl=>gn (k4 l ((C8 _).mem_iff.1 hl)) (by omega))
        rcases acc with ⟨h0,_⟩|⟨_,f9,b65⟩
        ·exact absurd (by simpa[C9]using h0) hl0
        ·simp only[go_sem]
         refine amt (fun s3=>s3.base=0∧s3.tmp 2= .dv 2 (s3.ver 2) 0∧s3.bm 2=some (.loc [.d .bd])∧s3.tmp 7= .dv 7 (s3.ver 7) 0∧s3.bm 7=some (.loc [.d (.dt 1 ((uh (Il ls)).map fun l=>[se l]))])∧
          s3.tmp 72= .d (.bool (!decide (uh (C9 ls)=uh (Il ls))))) ?_ ?_
         ·have hso:=fun m hb=>a9v A L hρ (C9 ls) (by omega) hbl (m:=m) (id:=65) (ver:=s2.ver 65) hb
          simp only[ae]at f9;simp only[ad2,go_sem,aa,eb,f7,b7,f9]
          repeat' apply aGv
          all_goals
           refine iu (hso _ ?_ rfl 1000) ?_
           ·exact b65
           ·simp only[go_sem,aa,PS.gl,PS.mem,Rp,f7,b7]
            refine iv (ds:=[jv (uh (C9 ls)),jv (uh (Il ls)),.mb A.fu []]) ?_ hEq rfl ?_
            ·simp only[go_sem,ae,hsl,jv]
            ·simp only[go_sem,aa,f2,b2,f7,b7]
         ·clear eb f2 b2 f7 b7 f9 b65
          rintro s3 ⟨eb,f2,b2,f7,b7,f72⟩;cases hd:decide (uh (C9 ls)=uh (Il ls))
          ·rw[hd]at f72 hpB
           rw[hpB];simp only[go_sem,aa,eb,f2,b2,f72]
          ·rw[hd]at f72 hpB
           rw[hpB];simp only[go_sem,aa,eb,f2,b2,f7,b7,f72]
theorem an5(ls:List (List Sp)):(ace ls).one=true:=by unfold ace;split<;>rfl
theorem avs(L:aGl P ρ)(hρ:ρ.f 6=A.ew):J5 A.toPr Ew:=by
 intro ls h1 h2;have hr:=avd A L hρ ls h1 h2
 refine cy A.mo A.Z8 (by simp) ?_
 show jd P (K9 A.C1) (kf _ _) _
 have eL:jv ls= .dt 1 (ls.map fun l=>[se l]):=rfl
 rw[eL]at hr⊢;have ho:=an5 ls;generalize ace ls=X at hr ho;simp only[K9,go_sem,aa];refine ee hr ?_;cases hp:Ew ls
 ·simp only[go_sem,aa]
 ·cases X<;>first|(cases ho;done)|simp only[go_sem,aa]
end
end Go.PI
namespace Go.PI
def a9j(p q:Sp):Int:=if(p.1≤0∧0<q.1)∧di p q<0 then-1 else if(q.1≤0∧0<p.1)∧0<di p q then 1 else 0
def a7c(p q:Sp):Int:=if(0<p.2↔0<q.2)then 0 else if(0<di p q↔p.2<q.2)then(if p.2<q.2 then 1 else-1)else 0
def a3e(p:Sp):Int:=if 0<p.1∧0<p.2 then 1 else 0
def a3g(p:Sp):Int:=if p.2=0∧0<p.1 then 1 else 0
def Sg(x s:Int):Prop:=(s= -1∧x<0)∨(s=0∧x=0)∨(s=1∧0<x)
theorem Ih(x:Int):∃s,Sg x s:=by
 rcases aB0 x 0 with h|h|h
 ·exact⟨-1,.inl ⟨rfl,h⟩⟩
 ·exact⟨0,.inr (.inl ⟨rfl,h⟩)⟩
 ·exact⟨1,.inr (.inr ⟨rfl,h⟩)⟩
theorem Ca{x y s t:Int}(h1:Sg x s)(h2:Sg y t):Sg (x*y) (s*t):=by
 rcases h1 with ⟨rfl,h1⟩|⟨rfl,h1⟩|⟨rfl,h1⟩<;>rcases h2 with ⟨rfl,h2⟩|⟨rfl,h2⟩|⟨rfl,h2⟩
 ·exact .inr (.inr ⟨rfl,a6b h1 h2⟩)
 ·exact .inr (.inl ⟨rfl,by rw[h2,aFl]⟩)
 ·exact .inl ⟨rfl,a6c h1 h2⟩
 ·exact .inr (.inl ⟨rfl,by rw[h1,ahx]⟩)
 ·exact .inr (.inl ⟨rfl,by rw[h1,ahx]⟩)
 ·exact .inr (.inl ⟨rfl,by rw[h1,ahx]⟩)
 ·exact .inl ⟨rfl,Int.mul_neg_of_pos_of_neg h1 h2⟩
 ·exact .inr (.inl ⟨rfl,by rw[h2,aFl]⟩)
 ·exact .inr (.inr ⟨rfl,Gr h1 h2⟩)
theorem P9{x:Int}(h:Sg x 1):0<x:=by unfold Sg at h;omega
theorem Pa{x:Int}(h:Sg x (-1)):x<0:=by unfold Sg at h;omega
theorem P8{x:Int}(h:Sg x 0):x=0:=by unfold Sg at h;omega
theorem arh(p q:Sp)(h:di p q=0→0<p.1*q.1+p.2*q.2):a7c p q-a9j p q=a3e q-a3e p:=by
 obtain⟨a,b⟩:=p;obtain⟨c,d⟩:=q;unfold a7c a9j a3e;unfold di at h⊢;simp only at h⊢;obtain⟨sa,ha⟩:=Ih a;obtain⟨sb,hb⟩:=Ih b;obtain⟨sc,hc⟩:=Ih c;obtain⟨sd,hd⟩:=Ih d;have m1:=Ca ha hd;have m2:=Ca hb hc;have m3:=Ca ha hc;have m4:=Ca hb hd
 generalize a*d=X at*
 generalize b*c=Y at*
 generalize a*c=Z at*
 generalize b*d=W at*
 rcases ha with ⟨rfl,ha⟩|⟨rfl,ha⟩|⟨rfl,ha⟩<;>rcases hb with ⟨rfl,hb⟩|⟨rfl,hb⟩|⟨rfl,hb⟩<;>rcases hc with ⟨rfl,hc⟩|⟨rfl,hc⟩|⟨rfl,hc⟩<;>rcases hd with ⟨rfl,hd⟩|⟨rfl,hd⟩|⟨rfl,hd⟩<;>
  (first|replace m1:=P9 m1|replace m1:=Pa m1|replace m1:=P8 m1)<;>(first|replace m2:=P9 m2|replace m2:=Pa m2|replace m2:=P8 m2)<;>(first|replace m3:=P9 m3|replace m3:=Pa m3|replace m3:=P8 m3)<;>(first|replace m4:=P9 m4|replace m4:=Pa m4|replace m4:=P8 m4)<;>
  (repeat' split)<;>omega
theorem adz(p q:Sp)(h:di p q=0→0<p.1*q.1+p.2*q.2): -(a7c (p.2,p.1) (q.2,q.1))=a9j p q:=by
 obtain⟨a,b⟩:=p;obtain⟨c,d⟩:=q;unfold a7c a9j;unfold di at h⊢;simp only at h⊢;obtain⟨sa,ha⟩:=Ih a;obtain⟨sb,hb⟩:=Ih b;obtain⟨sc,hc⟩:=Ih c;obtain⟨sd,hd⟩:=Ih d;have m1:=Ca ha hd;have m2:=Ca hb hc;have m3:=Ca ha hc;have m4:=Ca hb hd
 generalize a*d=X at*
 generalize b*c=Y at*
 generalize a*c=Z at*
 generalize b*d=W at*
 rcases ha with ⟨rfl,ha⟩|⟨rfl,ha⟩|⟨rfl,ha⟩<;>rcases hb with ⟨rfl,hb⟩|⟨rfl,hb⟩|⟨rfl,hb⟩<;>rcases hc with ⟨rfl,hc⟩|⟨rfl,hc⟩|⟨rfl,hc⟩<;>rcases hd with ⟨rfl,hd⟩|⟨rfl,hd⟩|⟨rfl,hd⟩<;>
  (first|replace m1:=P9 m1|replace m1:=Pa m1|replace m1:=P8 m1)<;>(first|replace m2:=P9 m2|replace m2:=Pa m2|replace m2:=P8 m2)<;>(first|replace m3:=P9 m3|replace m3:=Pa m3|replace m3:=P8 m3)<;>(first|replace m4:=P9 m4|replace m4:=Pa m4|replace m4:=P8 m4)<;>
  (repeat' split)<;>omega
theorem amr(p q:Sp)(h:di p q=0→0<p.1*q.1+p.2*q.2):a7c p q-a9j (-p.2,p.1) (-q.2,q.1)=a3g p-a3g q:=by
 obtain⟨a,b⟩:=p;obtain⟨c,d⟩:=q;unfold a7c a9j a3g;unfold di at h⊢;simp only at h⊢;obtain⟨sa,ha⟩:=Ih a;obtain⟨sb,hb⟩:=Ih b;obtain⟨sc,hc⟩:=Ih c;obtain⟨sd,hd⟩:=Ih d;have m1:=Ca ha hd;have m2:=Ca hb hc;have m3:=Ca ha hc;have m4:=Ca hb hd;have e1: -b*c= -(b*c):=aGi ..;have e2:a* -d= -(a*d):=aGj ..;rw[e1,e2];clear e1 e2
 generalize a*d=X at*
 generalize b*c=Y at*
 generalize a*c=Z at*
 generalize b*d=W at*
 rcases ha with ⟨rfl,ha⟩|⟨rfl,ha⟩|⟨rfl,ha⟩<;>rcases hb with ⟨rfl,hb⟩|⟨rfl,hb⟩|⟨rfl,hb⟩<;>rcases hc with ⟨rfl,hc⟩|⟨rfl,hc⟩|⟨rfl,hc⟩<;>rcases hd with ⟨rfl,hd⟩|⟨rfl,hd⟩|⟨rfl,hd⟩<;>
  (first|replace m1:=P9 m1|replace m1:=Pa m1|replace m1:=P8 m1)<;>(first|replace m2:=P9 m2|replace m2:=Pa m2|replace m2:=P8 m2)<;>(first|replace m3:=P9 m3|replace m3:=Pa m3|replace m3:=P8 m3)<;>(first|replace m4:=P9 m4|replace m4:=Pa m4|replace m4:=P8 m4)<;>
  (repeat' split)<;>omega
def rel(m p:Sp):Sp:=(2*p.1-m.1,2*p.2-m.2)
theorem W3(m:Sp)(f:Ed):Gs m f=a9j (rel m f.1) (rel m f.2):=by
 have e:gj (dbl f.1) (dbl f.2) m=di (rel m f.1) (rel m f.2):=by
  unfold gj dbl di rel;simp only[Int.sub_mul,Int.mul_sub];have h1:=xv (2*f.2.2) m.1;have h2:=xv (2*f.1.2) m.1;have h3:=xv (2*f.1.2) (2*f.2.1);have h4:=xv (2*f.1.2) (2*f.1.1);have h5:=xv (2*f.2.2) (2*f.1.1);have h6:=xv m.2 (2*f.2.1);have h7:=xv m.2 m.1;omega
 unfold Gs a9j;rw[e];simp only[rel]
 congr 1
 ·rw[eq_iff_iff];constructor<;>rintro⟨⟨h1,h2⟩,h3⟩<;>exact⟨⟨by omega,by omega⟩,h3⟩
 ·congr 1
  rw[eq_iff_iff];constructor<;>rintro⟨⟨h1,h2⟩,h3⟩<;>exact⟨⟨by omega,by omega⟩,h3⟩
theorem Ue(sw:Bool)(m:Sp)(f:Ed):Ys sw m f=a7c (seen sw m f.1) (seen sw m f.2):=by
 unfold Ys a7c;generalize seen sw m f.1=p;generalize seen sw m f.2=q;by_cases h1:0<p.2<;>by_cases h2:0<q.2<;>by_cases h3:0<di p q<;>by_cases h4:p.2<q.2<;>simp[h1,h2,h3,h4]
theorem a6p(m p:Sp):seen false m p=rel m p:=rfl
theorem alr(m p:Sp):seen true m p=((rel m p).2,(rel m p).1):=rfl
theorem aad(e:Ed)(p:Sp):rel (r9 (yq e)) (-p.2,p.1)=(-(rel (r9 e) p).2,(rel (r9 e) p).1):=by
 unfold rel r9 yq;refine Jg ?_ ?_
 ·show 2* -p.2-(-e.1.2+ -e.2.2)= -(2*p.2-(e.1.2+e.2.2))
  omega
 ·rfl
theorem W7(f g:Nat→Int):∀n,nf f n-nf g n=nf (fun k=>f k-g k) n:=by
 intro n
 induction n with
 |zero=>rfl
 |succ n ih=>simp only[nf];rw[←ih];omega
theorem a4p(f:Nat→Int):∀n,-(nf f n)=nf (fun k=> -(f k)) n:=by
 intro n
 induction n with
 |zero=>rfl
 |succ n ih=>simp only[nf];rw[←ih];omega
theorem Jk{f g:Nat→Int}:∀n,(∀k,k<n→f k=g k)→nf f n=nf g n:=by
 intro n
 induction n with
 |zero=>intro _;rfl
 |succ n ih=>intro h;simp only[nf];rw[ih fun k hk=>h k (by omega),h n (by omega)]
theorem ai8(f:Nat→Int)(i:Nat):∀n,i<n→nf (fun k=>if k=i then 0 else f k) n=nf f n-f i:=by
 intro n
 induction n with
 |zero=>intro h;omega
 |succ n ih=>
  intro h;simp only[nf];by_cases e:n=i
  ·subst e
   rw[if_pos rfl,Jk n (fun k hk=>if_neg (by omega))]
   omega
  ·rw[if_neg e,ih (by omega)]
   omega
def a3a(g:Ed→Int)(l:List Ed):Int:=(l.map g).sum
theorem a04(g:Ed→Int)(l:List Ed):nf (fun k=>g (l.getD k e0)) l.length=a3a g l:=by
 have:∀n,n≤l.length→nf (fun k=>g (l.getD k e0)) n=a3a g (l.take n):=by
  intro n
  induction n with
  |zero=>intro _;rfl
  |succ n ih=>
   intro h
   simp only[nf,ih (by omega)]
   unfold a3a;rw[ey,fb,aEr]
   have:l[n]? =some l[n]:=ao (by omega)
   simp[bn,this]
 rw[this _ (ar _),eo]
theorem ai7(g:Sp→Int)(l:List Sp):a3a (fun e=>g e.2-g e.1) (i7 l)=0:=by
 have e1:a3a (fun e=>g e.2-g e.1) (i7 l)=nf (fun k=>g (l.getD ((k+1)%l.length) (0,0))-g (l.getD k (0,0))) l.length:=by
  rw[←a04,tu]
  refine Jk _ fun k hk=>?_
  have:(i7 l).getD k e0=yo l k:=by
   unfold i7;simp[bn,hk]
  rw[this];rfl
 rw[e1,←W7]
 cases hl:l.length with
 |zero=>rfl
 |succ n=>
  have a1:∀m,m≤n→nf (fun k=>g (l.getD ((k+1)%(n+1)) (0,0))) m=nf (fun k=>g (l.getD k (0,0))) (m+1)-g (l.getD 0 (0,0)):=by
   intro m
   induction m with
   |zero=>intro _;simp only[nf];omega
   |succ m ih=>
    intro hm;simp only[nf]at ih⊢
    rw[ih (by omega),a63 (show m+1<n+1 by omega)]
    omega
  have a2:=a1 n (ar _);simp only[nf]at a2⊢;rw[a2,Nat.mod_self];omega
theorem a9n(g:Ed→Int)(a b:List Ed):a3a g (a++b)=a3a g a+a3a g b:=by unfold a3a;rw[fb,aEr]
theorem aB3(g:Sp→Int)(ls:List (List Sp)):a3a (fun e=>g e.2-g e.1) (fl ls)=0:=by
 induction ls with
 |nil=>rfl
 |cons l r ih=>
  have:fl (l::r)=i7 l++fl r:=by unfold fl;rw[aAz]
  rw[this,a9n,ih,ai7];rfl
def ahn(es:List Ed)(i:Nat):Prop:=∀k,k<es.length→k≠i→di (rel (r9 (es.getD i e0)) (es.getD k e0).1) (rel (r9 (es.getD i e0)) (es.getD k e0).2)=0→
 0<(rel (r9 (es.getD i e0)) (es.getD k e0).1).1*(rel (r9 (es.getD i e0)) (es.getD k e0).2).1+(rel (r9 (es.getD i e0)) (es.getD k e0).1).2*(rel (r9 (es.getD i e0)) (es.getD k e0).2).2
theorem O0(es:List Ed)(k:Nat):(es.map yq).getD k e0=yq (es.getD k e0):=by
 simp only[bn,bp]
 cases es[k]? with
 |none=>simp[yq,e0]
 |some e=>rfl
theorem apk{ls:List (List Sp)}(g:Sp→Int){i:Nat}(hi:i<(fl ls).length):
  nf (fun k=>if k=i then 0 else g ((fl ls).getD k e0).2-g ((fl ls).getD k e0).1) (fl ls).length=g ((fl ls).getD i e0).1-g ((fl ls).getD i e0).2:=by
 rw[ai8 (fun k=>g ((fl ls).getD k e0).2-g ((fl ls).getD k e0).1) i _ hi,a04 (fun e=>g e.2-g e.1),aB3]
 omega
theorem ajr{ls:List (List Sp)}{i:Nat}(hi:i<(fl ls).length)(hf:ahn (fl ls) i)(kg:((fl ls).getD i e0).1≠((fl ls).getD i e0).2):V6 (fl ls) i=Sz (fl ls) i:=by
 have hb:=fun g=>apk (ls:=ls) g hi
 generalize fl ls=es at*
 have hw:∀sw k,k<es.length→(if k=i then(0:Int)else Ys sw (r9 (es.getD i e0)) (es.getD k e0))=if k=i then 0 else a7c (seen sw (r9 (es.getD i e0)) (es.getD k e0).1) (seen sw (r9 (es.getD i e0)) (es.getD k e0).2):=fun sw k _=>by rw[Ue]
 unfold V6 Sz;by_cases hv:(es.getD i e0).1.1=(es.getD i e0).2.1
 ·have hsw:swE (es.getD i e0)=false:=by
   unfold swE;simp only[beq_eq_false_iff_ne];intro h;exact kg (Jg hv h)
  rw[if_pos hv,hsw];unfold Tn;rw[ae,O0]
  have hg:=hb fun p=>a3g (rel (r9 (es.getD i e0)) p)
  have Yv:nf (wAt es i) es.length-nf (T9 (es.map yq) i) es.length=nf (fun k=> -(if k=i then 0 else a3g (rel (r9 (es.getD i e0)) (es.getD k e0).2)-a3g (rel (r9 (es.getD i e0)) (es.getD k e0).1))) es.length:=by
   rw[W7]
   refine Jk _ fun k hk=>?_
   unfold wAt T9;rw[hsw,O0,O0];by_cases e:k=i
   ·simp only[e,if_true];rfl
   ·simp only[if_neg e]
    rw[Ue,W3,a6p,a6p];have:=amr _ _ (hf k hk e);have t1:rel (r9 (yq (es.getD i e0))) (yq (es.getD k e0)).1=(-(rel (r9 (es.getD i e0)) (es.getD k e0).1).2,(rel (r9 (es.getD i e0)) (es.getD k e0).1).1):=aad _ _;have t2:rel (r9 (yq (es.getD i e0))) (yq (es.getD k e0)).2=(-(rel (r9 (es.getD i e0)) (es.getD k e0).2).2,(rel (r9 (es.getD i e0)) (es.getD k e0).2).1):=aad _ _;rw[t1,t2];omega
  rw[←a4p,hg]at Yv
  have z1:a3g (rel (r9 (es.getD i e0)) (es.getD i e0).1)=0:=by
   unfold a3g rel r9;rw[if_neg];simp only;omega
  have z2:a3g (rel (r9 (es.getD i e0)) (es.getD i e0).2)=0:=by
   unfold a3g rel r9;rw[if_neg];simp only;omega
  rw[z1,z2]at Yv
  have az8:(if(decide ((vw false (es.getD i e0).1).2<(vw false (es.getD i e0).2).2)== !false)=true then(1:Int)else 0)=if(yq (es.getD i e0)).2.1<(yq (es.getD i e0)).1.1 then 1 else 0:=by
   have:(yq (es.getD i e0)).2.1<(yq (es.getD i e0)).1.1↔(es.getD i e0).1.2<(es.getD i e0).2.2:=by
    show-(es.getD i e0).2.2< -(es.getD i e0).1.2↔_;omega
   simp only[vw,this];by_cases h:(es.getD i e0).1.2<(es.getD i e0).2.2<;>simp[]
  rw[az8];simp only[ec,if_false];omega
 ·rw[if_neg hv]
  unfold Tn;cases hsw:swE (es.getD i e0)
  ·have hh:(es.getD i e0).1.2≠(es.getD i e0).2.2:=by
    unfold swE at hsw;simpa using hsw
   have hg:=hb fun p=>a3e (rel (r9 (es.getD i e0)) p)
   have Yv:nf (wAt es i) es.length-nf (T9 es i) es.length=nf (fun k=>(if k=i then 0 else a3e (rel (r9 (es.getD i e0)) (es.getD k e0).2)-a3e (rel (r9 (es.getD i e0)) (es.getD k e0).1))) es.length:=by
    rw[W7]
    refine Jk _ fun k hk=>?_
    unfold wAt T9;rw[hsw];by_cases e:k=i
    ·simp only[e,if_true];rfl
    ·simp only[if_neg e]
     rw[Ue,W3,a6p,a6p];exact arh _ _ (hf k hk e)
   rw[hg]at Yv;simp only[ec,if_false,vw]
   have q1:a3e (rel (r9 (es.getD i e0)) (es.getD i e0).1)=if(es.getD i e0).2.1<(es.getD i e0).1.1∧(es.getD i e0).2.2<(es.getD i e0).1.2 then 1 else 0:=by
    unfold a3e rel r9;simp only
    congr 1
    rw[eq_iff_iff];omega
   have q2:a3e (rel (r9 (es.getD i e0)) (es.getD i e0).2)=if(es.getD i e0).1.1<(es.getD i e0).2.1∧(es.getD i e0).1.2<(es.getD i e0).2.2 then 1 else 0:=by
    unfold a3e rel r9;simp only
    congr 1
    rw[eq_iff_iff];omega
   rw[q1,q2]at Yv;by_cases h1:(es.getD i e0).1.1<(es.getD i e0).2.1<;>by_cases h2:(es.getD i e0).1.2<(es.getD i e0).2.2
   ·have g1:¬(es.getD i e0).2.1<(es.getD i e0).1.1:=by omega
    simp only[h1,h2,g1,decide_true,and_self,false_and,if_true,if_false,Ji,beq_self_eq_true]at Yv⊢;omega
   ·have g1:¬(es.getD i e0).2.1<(es.getD i e0).1.1:=by omega
    simp only[h1,h2,g1,decide_false,and_false,false_and,if_false,Ji]at Yv⊢;simp;omega
   ·have g1:(es.getD i e0).2.1<(es.getD i e0).1.1:=by omega
    have g2:¬(es.getD i e0).2.2<(es.getD i e0).1.2:=by omega
    simp only[h1,h2,g1,g2,decide_true,and_true,and_false,if_true,if_false,Ji,beq_self_eq_true]at Yv⊢;omega
   ·have g1:(es.getD i e0).2.1<(es.getD i e0).1.1:=by omega
    have g2:(es.getD i e0).2.2<(es.getD i e0).1.2:=by omega
    simp only[h1,h2,g1,g2,decide_false,and_self,if_true,if_false,Ji]at Yv⊢;simp;omega
  ·have Yv: -(nf (wAt es i) es.length)=nf (T9 es i) es.length:=by
    rw[a4p]
    refine Jk _ fun k hk=>?_
    unfold wAt T9;rw[hsw];by_cases e:k=i
    ·simp only[e,if_true];rfl
    ·simp only[if_neg e]
     rw[Ue,W3,alr,alr];exact adz _ _ (hf k hk e)
   simp only[if_true,Yv,vw,aAt];by_cases h1:(es.getD i e0).1.1<(es.getD i e0).2.1
   ·have g1:¬(es.getD i e0).2.1<(es.getD i e0).1.1:=by omega
    rw[decide_eq_true h1,if_neg (show¬(((true:Bool)==false)=true)by decide),if_neg g1]
   ·have g1:(es.getD i e0).2.1<(es.getD i e0).1.1:=by omega
    rw[decide_eq_false h1,if_pos (show(((false:Bool)==false)=true)by decide),if_pos g1]
theorem arq(u v:Sp)(h:di u v=0)(hd:u.1*v.1+u.2*v.2<0):((u.1≤0∧0≤v.1)∨(v.1≤0∧0≤u.1))∧((u.2≤0∧0≤v.2)∨(v.2≤0∧0≤u.2)):=by
 obtain⟨a,b⟩:=u;obtain⟨c,d⟩:=v;unfold di at h;simp only at h hd⊢;obtain⟨sa,ha⟩:=Ih a;obtain⟨sb,hb⟩:=Ih b;obtain⟨sc,hc⟩:=Ih c;obtain⟨sd,hd'⟩:=Ih d;have m1:=Ca ha hd';have m2:=Ca hb hc;have m3:=Ca ha hc;have m4:=Ca hb hd'
 generalize a*d=X at*
 generalize b*c=Y at*
 generalize a*c=Z at*
 generalize b*d=W at*
 rcases ha with ⟨rfl,ha⟩|⟨rfl,ha⟩|⟨rfl,ha⟩<;>rcases hb with ⟨rfl,hb⟩|⟨rfl,hb⟩|⟨rfl,hb⟩<;>rcases hc with ⟨rfl,hc⟩|⟨rfl,hc⟩|⟨rfl,hc⟩<;>rcases hd' with ⟨rfl,hd'⟩|⟨rfl,hd'⟩|⟨rfl,hd'⟩<;>
  (first|replace m1:=P9 m1|replace m1:=Pa m1|replace m1:=P8 m1)<;>(first|replace m2:=P9 m2|replace m2:=Pa m2|replace m2:=P8 m2)<;>(first|replace m3:=P9 m3|replace m3:=Pa m3|replace m3:=P8 m3)<;>(first|replace m4:=P9 m4|replace m4:=Pa m4|replace m4:=P8 m4)<;>
  omega
theorem ako(a b p:Sp):gj a b p=di (jq a p) (jq b p):=by
 unfold gj di jq;simp only[Int.sub_mul,Int.mul_sub];have h1:=xv b.1 p.2;have h2:=xv b.2 p.1;have h3:=xv a.1 p.2;have h4:=xv a.2 p.1;have h5:=xv a.1 b.2;have h6:=xv a.2 b.1;have h7:=xv p.1 p.2;have h8:=xv a.1 a.2;omega
theorem awq{e:Ed}{p:Sp}(h:abh e p=true):onB e p=true∧p≠e.1∧p≠e.2:=by
 unfold abh at h;simp only[cd,beq_iff_eq,decide_eq_true_eq]at h;obtain⟨h1,h2⟩:=h;have hb:=arq (jq e.1 p) (jq e.2 p) h1 h2;refine⟨?_,?_,?_⟩
 ·unfold onB
  simp only[cd,beq_iff_eq,decide_eq_true_eq]
  refine⟨by rw[ako];exact h1,?_⟩
  simp only[jq]at hb;unfold mn mx;refine⟨?_,?_,?_,?_⟩<;>split<;>omega
 ·rintro rfl
  simp at h2
 ·rintro rfl
  simp at h2
theorem zb{es:List Ed}(h:Eg es=true){i:Nat}(hi:i<es.length):(es.getD i e0).1≠(es.getD i e0).2∧∀k,k<es.length→X0 (es.getD i e0) (es.getD k e0)=false∧U1 i k (es.getD i e0) (es.getD k e0)=false:=by
 unfold Eg at h;have h1:=ck.1 h i (du.2 hi);unfold R8 at h1;simp only[cd,wg]at h1
 refine⟨fun q=>?_,fun k hk=>?_⟩
 ·have:=h1.1
  rw[tq.2 q]at this;cases this
 ·have:=ck.1 h1.2 k (du.2 hk)
  simpa using this
theorem aib{es:List Ed}(h:Eg es=true):P7 es=true:=by
 unfold P7;rw[cd]
 refine⟨ck.2 fun i hi=>?_,ck.2 fun i hi=>ck.2 fun k hk=>?_⟩
 ·have hi:=du.1 hi
  obtain⟨h1,h2⟩:=zb h hi
  have get:∀f,f∈es.take i→∃k,k<i∧k<es.length∧es.getD k e0=f:=fun f hf=>by
   obtain⟨k,hk,rfl⟩:=fj.1 hf;simp only[dd]at hk
   refine⟨k,by omega,by omega,?_⟩
   simp[bn,show k<es.length by omega]
  unfold a08;simp only[cd,wg];refine⟨?_,?_,?_⟩
  ·cases hs:ru (es.getD i e0).1 (es.getD i e0).2
   ·rfl
   ·exact absurd (tq.1 hs) h1
  ·cases hm:Ki (es.take i) (es.getD i e0)
   ·rfl
   ·obtain⟨k,hk,hkl,he⟩:=get _ (Jp.1 hm)
    have:=(h2 k hkl).2;rw[he]at this;unfold U1 at this
    rw[decide_eq_true (show i≠k by omega)]at this
    simp[Vp]at this
  ·cases hm:Ki (es.take i) (a73 (es.getD i e0))
   ·rfl
   ·obtain⟨k,hk,hkl,he⟩:=get _ (Jp.1 hm)
    have:=(h2 k hkl).2;rw[he]at this;unfold U1 at this
    rw[decide_eq_true (show i≠k by omega)]at this
    simp[a73,ru]at this
 ·have hi:=du.1 hi
  have hk:=du.1 hk;obtain⟨h1,h2⟩:=zb h hi;have h3:=(h2 k hk).1;unfold X0 at h3;rw[P6]at h3;unfold Xv;simp only[cd,wg];refine⟨?_,?_⟩
  ·cases hh:abh (es.getD i e0) (es.getD k e0).1
   ·rfl
   ·obtain⟨k1,k2,k3⟩:=awq hh
    have:=h3.1;rw[k1]at this
    have n1:ru (es.getD k e0).1 (es.getD i e0).1=false:=by
     cases q:ru (es.getD k e0).1 (es.getD i e0).1
     ·rfl
     ·exact absurd (tq.1 q) k2
    have n2:ru (es.getD k e0).1 (es.getD i e0).2=false:=by
     cases q:ru (es.getD k e0).1 (es.getD i e0).2
     ·rfl
     ·exact absurd (tq.1 q) k3
    rw[n1,n2]at this;cases this
  ·rw[h3.2,o9]
theorem ano(a b A:Sp):2*gj a b A=di (jq b a) (rel (a.1+b.1,a.2+b.2) A):=by
 unfold gj di jq rel;simp only
 grind
theorem ayr(a b A B:Sp):4*gj A B a=di (jq b a) (rel (a.1+b.1,a.2+b.2) B)-di (jq b a) (rel (a.1+b.1,a.2+b.2) A)+di (rel (a.1+b.1,a.2+b.2) A) (rel (a.1+b.1,a.2+b.2) B):=by
 unfold gj di jq rel;simp only
 grind
theorem ayq(a b A B:Sp):4*gj A B b=di (jq b a) (rel (a.1+b.1,a.2+b.2) A)-di (jq b a) (rel (a.1+b.1,a.2+b.2) B)+di (rel (a.1+b.1,a.2+b.2) A) (rel (a.1+b.1,a.2+b.2) B):=by
 unfold gj di jq rel;simp only
 grind
theorem plu(d p q:Sp)(h:di p q=0):di d p*q.1=di d q*p.1∧di d p*q.2=di d q*p.2:=by
 unfold di at*
 constructor<;>grind
theorem age{X Y p q:Int}(hX:0<X)(hY:0<Y)(h:X*q=Y*p):(p=0∧q=0)∨0<p*q:=by
 obtain⟨s,hs⟩:=Ih p;obtain⟨t,ht⟩:=Ih q;have m1:=Ca (x:=X) (s:=1) (.inr (.inr ⟨rfl,hX⟩)) ht;have m2:=Ca (x:=Y) (s:=1) (.inr (.inr ⟨rfl,hY⟩)) hs;have m3:=Ca hs ht;rw[h]at m1
 generalize Y*p=Z at*
 generalize p*q=W at*
 rcases hs with ⟨rfl,hs⟩|⟨rfl,hs⟩|⟨rfl,hs⟩<;>rcases ht with ⟨rfl,ht⟩|⟨rfl,ht⟩|⟨rfl,ht⟩<;>
  (first|replace m1:=P9 m1|replace m1:=Pa m1|replace m1:=P8 m1)<;>(first|replace m2:=P9 m2|replace m2:=Pa m2|replace m2:=P8 m2)<;>(first|replace m3:=P9 m3|replace m3:=Pa m3|replace m3:=P8 m3)<;>omega
theorem aar{d p q:Sp}(h:di p q=0)(hd:p.1*q.1+p.2*q.2≤0)(h1:0<di d p)(h2:0<di d q):False:=by
 obtain⟨e1,e2⟩:=plu d p q h;have k1:=age h1 h2 e1;have k2:=age h1 h2 e2
 have z:p.1=0∧p.2=0:=by
  rcases k1 with ⟨a,b⟩|a<;>rcases k2 with ⟨c,e⟩|c
  ·exact⟨a,c⟩
  ·rw[a,ahx]at hd;omega
  ·rw[c,ahx]at hd;omega
  ·omega
 unfold di at h1;rw[z.1,z.2]at h1;simp at h1
theorem a2f(d p:Sp):di (-d.1,-d.2) p= -(di d p):=by
 unfold di;simp only
 grind
theorem ajl{a b A B:Sp}(h:di (rel (a.1+b.1,a.2+b.2) A) (rel (a.1+b.1,a.2+b.2) B)=0)
  (hd:(rel (a.1+b.1,a.2+b.2) A).1*(rel (a.1+b.1,a.2+b.2) B).1+(rel (a.1+b.1,a.2+b.2) A).2*(rel (a.1+b.1,a.2+b.2) B).2≤0)(hx:Km (a,b) (A,B)=false):
  gj a b A=0∨gj a b B=0:=by
 have e1:=ano a b A;have e2:=ano a b B;have e3:=ayr a b A B;have e4:=ayq a b A B;rw[h]at e3 e4;by_cases z1:gj a b A=0
 ·exact .inl z1
 ·by_cases z2:gj a b B=0
  ·exact .inr z2
  ·exfalso
   have n1:¬(0<gj a b A∧0<gj a b B):=fun⟨q1,q2⟩=>aar (d:=jq b a) h hd (by omega) (by omega)
   have n2:¬(gj a b A<0∧gj a b B<0):=fun⟨q1,q2⟩=>aar (d:=(-(jq b a).1,-(jq b a).2)) h hd (by rw[a2f];omega) (by rw[a2f];omega)
   unfold Km sgn at hx;simp only at hx;rcases ahy z1 with s1|s1<;>rcases ahy z2 with s2|s2
   ·exact n2 ⟨s1,s2⟩
   ·have c1:gj A B a>0:=by omega
    have c2:gj A B b<0:=by omega
    rw[if_pos s1,if_neg (show¬gj a b B<0 by omega),if_pos s2,if_neg (show¬gj A B a<0 by omega),if_pos c1,if_pos c2]at hx
    simp at hx
   ·have c1:gj A B a<0:=by omega
    have c2:gj A B b>0:=by omega
    rw[if_neg (show¬gj a b A<0 by omega),if_pos s1,if_pos s2,if_pos c1,if_neg (show¬gj A B b<0 by omega),if_pos c2]at hx
    simp at hx
   ·exact n1 ⟨s1,s2⟩
theorem ank{a b A:Sp}(kg:a≠b)(h1:2*A.1=a.1+b.1)(h2:2*A.2=a.2+b.2)(h0:gj a b A=0):onB (a,b) A=true∧A≠a∧A≠b:=by
 refine⟨?_,?_,?_⟩
 ·unfold onB mn mx
  simp only[cd,beq_iff_eq,decide_eq_true_eq];refine⟨h0,?_,?_,?_,?_⟩<;>split<;>omega
 ·rintro rfl
  exact kg (Jg (by omega) (by omega))
 ·rintro rfl
  exact kg (Jg (by omega) (by omega))
theorem ah1{a b A B:Sp}(h:di (rel (a.1+b.1,a.2+b.2) A) (rel (a.1+b.1,a.2+b.2) B)=0)(h1:gj a b A=0)(h2:gj a b B≠0):2*A.1=a.1+b.1∧2*A.2=a.2+b.2:=by
 have e1:=ano a b A;have e2:=ano a b B;obtain⟨k1,k2⟩:=plu (jq b a) _ _ h;rw[←e1,h1]at k1 k2;rw[←e2]at k1 k2;simp only[aFl,ahx]at k1 k2
 have n:2*gj a b B≠0:=by omega
 have z1:=(Ao.1 k1.symm).resolve_left n;have z2:=(Ao.1 k2.symm).resolve_left n;simp only[rel]at z1 z2;omega
theorem along{a b A:Sp}(h:gj a b A=0):di (jq b a) (rel (a.1+b.1,a.2+b.2) A)=0:=by
 rw[←ano,h];rfl
theorem ahi{d1 d2 x1 x2:Int}(h:d1*x2=d2*x1)(a:0≤x1)(b:x1≤d1)(hd:0<d1)(g:0<d2):0≤x2∧x2≤d2:=by
 constructor
 ·have h1:0≤d1*x2:=by rw[h];exact a9b (by omega) a
  exact aq9 h1 hd
 ·have h2:d1*x2≤d1*d2:=by rw[h,xv d1 d2];exact W2 b (by omega)
  exact Int.le_of_mul_le_mul_left h2 hd
theorem aty{d1 d2 x1 x2:Int}(h:d1*x2=d2*x1)(hd:d1≠0)(h1:(0≤x1∧x1≤d1)∨(d1≤x1∧x1≤0)):(0≤x2∧x2≤d2)∨(d2≤x2∧x2≤0):=by
 have main:∀(e1 y1:Int),0<e1→0≤y1→y1≤e1→e1*x2=d2*y1→(0≤x2∧x2≤d2)∨(d2≤x2∧x2≤0):=by
  intro e1 y1 p1 p2 p3 he;rcases aB0 d2 0 with g|g|g
  ·have:=ahi (d1:=e1) (d2:= -d2) (x1:=y1) (x2:= -x2) (by rw[aGj,aGi,he]) p2 p3 p1 (by omega)
   omega
  ·subst g
   rw[ahx]at he
   have:=(Ao.1 he).resolve_left (by omega)
   omega
  ·exact .inl (ahi he p2 p3 p1 g)
 rcases ahy hd with g|g
 ·exact main (-d1) (-x1) (by omega) (by omega) (by omega) (by rw[aGi,aGj,h])
 ·exact main d1 x1 g (by omega) (by omega) h
theorem avt{a b x:Sp}(h:gj a b x=0)(h1:(a.1≤x.1∧x.1≤b.1)∨(b.1≤x.1∧x.1≤a.1))(h2:(a.2≤x.2∧x.2≤b.2)∨(b.2≤x.2∧x.2≤a.2)):onB (a,b) x=true:=by
 unfold onB mn mx;simp only[cd,beq_iff_eq,decide_eq_true_eq];refine⟨h,?_,?_,?_,?_⟩<;>split<;>omega
theorem a7g{a b x:Sp}(h:onB ((a.2,a.1),(b.2,b.1)) (x.2,x.1)=true):onB (a,b) x=true:=by
 unfold onB at*
 simp only[cd,beq_iff_eq,decide_eq_true_eq]at*
 obtain⟨h0,h1,h2,h3,h4⟩:=h;refine⟨?_,h3,h4,h1,h2⟩
 have:gj (a.2,a.1) (b.2,b.1) (x.2,x.1)= -(gj a b x):=by
  unfold gj;simp only
  grind
 omega
theorem a7u{a b x:Sp}(h:gj a b x=0)(hn:a.1≠b.1)(h1:(a.1<x.1∧x.1<b.1)∨(b.1<x.1∧x.1<a.1)):onB (a,b) x=true∧x≠a∧x≠b:=by
 have e:(b.1-a.1)*(x.2-a.2)=(b.2-a.2)*(x.1-a.1):=by
  unfold gj at h
  grind
 have:=aty e (by omega) (by omega)
 refine⟨avt h (by omega) (by omega),?_,?_⟩
 ·rintro rfl;omega
 ·rintro rfl;omega
theorem a0u{a b A B:Sp}(hn:a.1≠b.1)(h1:gj a b A=0)(h2:gj a b B=0)
  (hd:(rel (a.1+b.1,a.2+b.2) A).1*(rel (a.1+b.1,a.2+b.2) B).1+(rel (a.1+b.1,a.2+b.2) A).2*(rel (a.1+b.1,a.2+b.2) B).2≤0):
  (onB (a,b) A=true∧A≠a∧A≠b)∨(onB (a,b) B=true∧B≠a∧B≠b)∨(onB (A,B) a=true∧a≠A∧a≠B)∨(onB (A,B) b=true∧b≠A∧b≠B)∨(A=a∧B=b)∨(A=b∧B=a):=by
 have k1:=along h1;have k2:=along h2;have m3:=ayr a b A B;have m4:=ayq a b A B;rw[k1,k2]at m3 m4
 have hc:di (rel (a.1+b.1,a.2+b.2) A) (rel (a.1+b.1,a.2+b.2) B)=0:=by
  have:(b.1-a.1)*di (rel (a.1+b.1,a.2+b.2) A) (rel (a.1+b.1,a.2+b.2) B)=0:=by
   unfold di jq at*
   simp only at*
   grind
  exact(Ao.1 this).resolve_left (by omega)
 rw[hc]at m3 m4
 have h3:gj A B a=0:=by omega
 have h4:gj A B b=0:=by omega
 have hp:(rel (a.1+b.1,a.2+b.2) A).1*(rel (a.1+b.1,a.2+b.2) B).1≤0:=by
  have e:(b.1-a.1)*(b.1-a.1)*((rel (a.1+b.1,a.2+b.2) A).1*(rel (a.1+b.1,a.2+b.2) B).1+(rel (a.1+b.1,a.2+b.2) A).2*(rel (a.1+b.1,a.2+b.2) B).2)=((b.1-a.1)*(b.1-a.1)+(b.2-a.2)*(b.2-a.2))*((rel (a.1+b.1,a.2+b.2) A).1*(rel (a.1+b.1,a.2+b.2) B).1):=by
   unfold di jq at*
   simp only at*
   grind
  have p1:0<(b.1-a.1)*(b.1-a.1):=by
   rcases ahy hn with g|g
   ·exact Gr (by omega) (by omega)
   ·exact a6b (by omega) (by omega)
  have p2:0≤(b.2-a.2)*(b.2-a.2):=by
   rcases aEx a.2 b.2 with g|g
   ·exact a9b (by omega) (by omega)
   ·exact Bh (by omega) (by omega)
  have p3:=Gq (aE2 p1) hd;rw[e]at p3;rcases My 0 ((rel (a.1+b.1,a.2+b.2) A).1*(rel (a.1+b.1,a.2+b.2) B).1)with g|g
  ·have:=Gr (show 0<(b.1-a.1)*(b.1-a.1)+(b.2-a.2)*(b.2-a.2)by omega) g
   omega
  ·exact g
 have hs:((rel (a.1+b.1,a.2+b.2) A).1≤0∧0≤(rel (a.1+b.1,a.2+b.2) B).1)∨((rel (a.1+b.1,a.2+b.2) B).1≤0∧0≤(rel (a.1+b.1,a.2+b.2) A).1):=by
  generalize(rel (a.1+b.1,a.2+b.2) A).1=p at*
  generalize(rel (a.1+b.1,a.2+b.2) B).1=q at*
  rcases My 0 p with g|g<;>rcases My 0 q with g2|g2
  ·have:=Gr g g2;omega
  ·omega
  ·omega
  ·rcases My p 0 with g3|g3<;>rcases My q 0 with g4|g4
   ·have:=a6b g3 g4;omega
   all_goals omega
 simp only[rel]at hs
 have eqs:∀{x:Sp},gj a b x=0→x.1=a.1→x=a:=fun{x} h e=>by
  have:(b.1-a.1)*(x.2-a.2)=0:=by
   unfold gj at h
   grind
  have:=(Ao.1 this).resolve_left (by omega)
  exact Jg e (by omega)
 have azw:∀{x:Sp},gj a b x=0→x.1=b.1→x=b:=fun{x} h e=>by
  have:(b.1-a.1)*(x.2-b.2)=0:=by
   unfold gj at h
   grind
  have:=(Ao.1 this).resolve_left (by omega)
  exact Jg e (by omega)
 by_cases c1:(a.1<A.1∧A.1<b.1)∨(b.1<A.1∧A.1<a.1)
 ·exact .inl (a7u h1 hn c1)
 ·by_cases c2:(a.1<B.1∧B.1<b.1)∨(b.1<B.1∧B.1<a.1)
  ·exact .inr (.inl (a7u h2 hn c2))
  ·by_cases c3:(A.1<a.1∧a.1<B.1)∨(B.1<a.1∧a.1<A.1)
   ·exact .inr (.inr (.inl (a7u h3 (by omega) c3)))
   ·by_cases c4:(A.1<b.1∧b.1<B.1)∨(B.1<b.1∧b.1<A.1)
    ·exact .inr (.inr (.inr (.inl (a7u h4 (by omega) c4))))
    ·have:(A.1=a.1∧B.1=b.1)∨(A.1=b.1∧B.1=a.1):=by omega
     rcases this with ⟨u,v⟩|⟨u,v⟩
     ·exact .inr (.inr (.inr (.inr (.inl ⟨eqs h1 u,azw h2 v⟩))))
     ·exact .inr (.inr (.inr (.inr (.inr ⟨azw h1 u,eqs h2 v⟩))))
theorem ajp{a b A B:Sp}(kg:a≠b)(h1:gj a b A=0)(h2:gj a b B=0)
  (hd:(rel (a.1+b.1,a.2+b.2) A).1*(rel (a.1+b.1,a.2+b.2) B).1+(rel (a.1+b.1,a.2+b.2) A).2*(rel (a.1+b.1,a.2+b.2) B).2≤0):
  (onB (a,b) A=true∧A≠a∧A≠b)∨(onB (a,b) B=true∧B≠a∧B≠b)∨(onB (A,B) a=true∧a≠A∧a≠B)∨(onB (A,B) b=true∧b≠A∧b≠B)∨(A=a∧B=b)∨(A=b∧B=a):=by
 by_cases hn:a.1=b.1
 ·have hn2:a.2≠b.2:=fun h=>kg (Jg hn h)
  have sw3:∀x y z:Sp,gj (x.2,x.1) (y.2,y.1) (z.2,z.1)= -(gj x y z):=fun x y z=>by
   unfold gj;simp only
   grind
  have ne:∀{x y:Sp},((x.2,x.1):Sp)≠(y.2,y.1)→x≠y:=fun{x y} h e=>h (by rw[e])
  have eq:∀{x y:Sp},((x.2,x.1):Sp)=(y.2,y.1)→x=y:=fun{x y} h=>by
   have h1:=congrArg Prod.fst h;have h2:=congrArg Prod.snd h;exact Jg h2 h1
  have:=a0u (a:=(a.2,a.1)) (b:=(b.2,b.1)) (A:=(A.2,A.1)) (B:=(B.2,B.1)) hn2 (by rw[sw3];omega) (by rw[sw3];omega) (by
   show(rel (a.1+b.1,a.2+b.2) A).2*(rel (a.1+b.1,a.2+b.2) B).2+(rel (a.1+b.1,a.2+b.2) A).1*(rel (a.1+b.1,a.2+b.2) B).1≤0
   omega)
  rcases this with ⟨p,q,r⟩|⟨p,q,r⟩|⟨p,q,r⟩|⟨p,q,r⟩|⟨p,q⟩|⟨p,q⟩
  ·exact .inl ⟨a7g p,ne q,ne r⟩
  ·exact .inr (.inl ⟨a7g p,ne q,ne r⟩)
  ·exact .inr (.inr (.inl ⟨a7g p,ne q,ne r⟩))
  ·exact .inr (.inr (.inr (.inl ⟨a7g p,ne q,ne r⟩)))
  ·exact .inr (.inr (.inr (.inr (.inl ⟨eq p,eq q⟩))))
  ·exact .inr (.inr (.inr (.inr (.inr ⟨eq p,eq q⟩))))
 ·exact a0u hn h1 h2 hd
theorem Ru{e f:Ed}(h:X0 e f=false):Km e f=false∧¬(onB e f.1=true∧f.1≠e.1∧f.1≠e.2):=by
 unfold X0 at h;rw[P6]at h
 refine⟨h.2,fun⟨a,b,c⟩=>?_⟩
 have:=h.1;rw[a]at this
 have n1:ru f.1 e.1=false:=by
  cases q:ru f.1 e.1
  ·rfl
  ·exact absurd (tq.1 q) b
 have n2:ru f.1 e.2=false:=by
  cases q:ru f.1 e.2
  ·rfl
  ·exact absurd (tq.1 q) c
 rw[n1,n2]at this;cases this
theorem a7i{i k:Nat}{e f:Ed}(h:U1 i k e f=false)(hn:i≠k):e≠f∧¬(e.1=f.2∧e.2=f.1):=by
 unfold U1 at h;rw[decide_eq_true hn,qu,P6]at h
 refine⟨?_,fun⟨a,b⟩=>?_⟩
 ·rintro rfl
  have:=h.1;simp[Vp]at this
 ·have:=h.2
  rw[tq.2 a,tq.2 b]at this;cases this
theorem abm{es:List Ed}{k:Nat}(h:k<es.length):es.getD k e0∈es:=by
 simp only[bn,ao h,j3];exact bz h
theorem Fh{es:List Ed}{e:Ed}(h:e∈es):∃k,k<es.length∧es.getD k e0=e:=by
 obtain⟨k,hk,rfl⟩:=fj.1 h
 exact⟨k,hk,by simp[bn,hk]⟩
theorem anl{es:List Ed}(h:Eg es=true)(hc:I9 es){i:Nat}(hi:i<es.length):ahn es i:=by
 intro k hk kg h0;rcases My 0 ((rel (r9 (es.getD i e0)) (es.getD k e0).1).1*(rel (r9 (es.getD i e0)) (es.getD k e0).2).1+(rel (r9 (es.getD i e0)) (es.getD k e0).1).2*(rel (r9 (es.getD i e0)) (es.getD k e0).2).2)with g|g
 ·exact g
 ·exfalso
  obtain⟨n1,hh⟩:=zb h hi;obtain⟨n2,hh2⟩:=zb h hk;obtain⟨x1,y1⟩:=Ru (hh k hk).1
  obtain⟨d1,d2⟩:=a7i (hh k hk).2 (by omega)
  obtain⟨x2,y2⟩:=Ru (hh2 i hi).1
  have z1:¬(onB (es.getD i e0) (es.getD k e0).2=true∧(es.getD k e0).2≠(es.getD i e0).1∧(es.getD k e0).2≠(es.getD i e0).2):=by
   obtain⟨f,hf,he⟩:=hc.1 _ (abm hk);obtain⟨m,hm,rfl⟩:=Fh hf;rw[←he];exact(Ru (hh m hm).1).2
  have z2:¬(onB (es.getD k e0) (es.getD i e0).2=true∧(es.getD i e0).2≠(es.getD k e0).1∧(es.getD i e0).2≠(es.getD k e0).2):=by
   obtain⟨f,hf,he⟩:=hc.1 _ (abm hi);obtain⟨m,hm,rfl⟩:=Fh hf;rw[←he];exact(Ru (hh2 m hm).1).2
  generalize es.getD i e0=e at*
  generalize es.getD k e0=f at*
  obtain⟨a,b⟩:=e;obtain⟨A,B⟩:=f;simp only[r9]at h0 g
  simp only at*
  have s:=ajl h0 g x1;by_cases c1:gj a b A=0
  ·by_cases c2:gj a b B=0
   ·rcases ajp n1 c1 c2 g with q|q|q|q|⟨q,r⟩|⟨q,r⟩
    ·exact y1 q
    ·exact z1 q
    ·exact y2 q
    ·exact z2 q
    ·exact d1 (by rw[q,r])
    ·exact d2 ⟨r.symm,q.symm⟩
   ·obtain⟨u,v⟩:=ah1 h0 c1 c2
    exact y1 (ank n1 u v c1)
  ·have c2:=s.resolve_left c1
   have h0':di (rel (a.1+b.1,a.2+b.2) B) (rel (a.1+b.1,a.2+b.2) A)=0:=by
    unfold di at h0⊢
    grind
   obtain⟨u,v⟩:=ah1 h0' c2 c1;exact z1 (ank n1 u v c2)
theorem akv{ls:List (List Sp)}(h:Eg (fl ls)=true)(hc:I9 (fl ls))(hl:Tm (fl ls)=true):Pv (fl ls)=true:=by
 unfold Pv
 refine ck.2 fun i hi=>?_
 have Dx:=du.1 hi;have:=ck.1 hl i hi;rw[ajr Dx (anl h hc Dx) (zb h Dx).1];exact this
def Q2(v:Sp):Prop:=0<v.2∨(v.2=0∧0<v.1)
def C6(u v:Sp):Int:=u.1*v.1+u.2*v.2
def sV(s:Int)(v:Sp):Sp:=(s*v.1,s*v.2)
theorem Tt{v:Sp}(h:v≠(0,0)):∃s w,v=sV s w∧Q2 w∧((s=1∧On v=0)∨(s= -1∧On v=1)):=by
 by_cases h1:0<v.2∨(v.2=0∧0<v.1)
 ·refine⟨1,v,?_,h1,.inl ⟨rfl,?_⟩⟩
  ·unfold sV;rw[Int.one_mul,Int.one_mul]
  ·unfold On
   rw[if_pos];simpa using h1
 ·refine⟨-1,sV (-1) v,?_,?_,.inr ⟨rfl,?_⟩⟩
  ·unfold sV
   refine Jg ?_ ?_<;>simp only<;>omega
  ·unfold Q2 sV
   simp only
   have:¬(v.1=0∧v.2=0):=fun⟨a,b⟩=>h (Jg a b)
   omega
  ·unfold On
   rw[if_neg];simpa using h1
theorem Rc(s t:Int)(u v:Sp):di (sV s u) (sV t v)=s*t*di u v:=by
 unfold di sV;simp only
 grind
theorem ap5(s t:Int)(u v:Sp):C6 (sV s u) (sV t v)=s*t*C6 u v:=by
 unfold C6 sV;simp only
 grind
theorem J2(u v:Sp):di v u= -(di u v):=by
 unfold di
 grind
theorem tr0{u x y:Sp}(hu:Q2 u)(hx:Q2 x)(hy:Q2 y)(h1:0≤di u x)(h2:0≤di x y):0≤di u y∧(di u y=0→di u x=0∧di x y=0):=by
 obtain⟨a,b⟩:=u;obtain⟨c,d⟩:=x;obtain⟨e,f⟩:=y
 have id:d*di (a,b) (e,f)=f*di (a,b) (c,d)+b*di (c,d) (e,f):=by
  unfold di;simp only
  grind
 unfold Q2 at hu hx hy;simp only at hu hx hy;by_cases hd:0<d
 ·have p1:0≤f*di (a,b) (c,d):=a9b (by omega) h1
  have p2:0≤b*di (c,d) (e,f):=a9b (by omega) h2
  have p3:0≤di (a,b) (e,f):=aq9 (a:=d) (by omega) hd
  refine⟨p3,fun h0=>?_⟩
  rw[h0,aFl]at id
  have q1:f*di (a,b) (c,d)=0:=by omega
  have q2:b*di (c,d) (e,f)=0:=by omega
  have hf:f≠0:=by
   rintro rfl;unfold di at h2;simp only at h2
   have:=Gr hd (show 0<e by omega)
   omega
  have r1:=(Ao.1 q1).resolve_left hf;refine⟨r1,?_⟩;by_cases hb:b=0
  ·exfalso
   subst hb;unfold di at r1;simp only at r1
   have:=Gr (show 0<a by omega) hd
   omega
  ·exact(Ao.1 q2).resolve_left hb
 ·have hd0:d=0:=by omega
  subst hd0
  have hc:0<c:=by omega
  unfold di at*
  simp only at*
  by_cases hb:0<b
  ·have:=Gr hb hc
   omega
  ·have hb0:b=0:=by omega
   subst hb0
   have ha:0<a:=by omega
   have p1:0≤a*f:=a9b (by omega) (by omega)
   refine⟨by omega,fun h0=>?_⟩
   have:a*f=0:=by omega
   have:f=0:=(Ao.1 this).resolve_left (by omega)
   subst this;omega
theorem tr1{u x y:Sp}(hu:Q2 u)(hx:Q2 x)(hy:Q2 y):(0≤di u x∧0≤di x y)→(0≤di u y∧(di u y=0→di u x=0∧di x y=0)):=fun⟨a,b⟩=>tr0 hu hx hy a b
theorem agt{u x:Sp}(hu:Q2 u)(hx:Q2 x)(h:di u x=0):0<C6 u x:=by
 obtain⟨a,b⟩:=u;obtain⟨c,d⟩:=x
 unfold Q2 di C6 at*
 simp only at*
 rcases hu with hu|⟨rfl,hu⟩<;>rcases hx with hx|⟨rfl,hx⟩
 ·have p:=Gr hu hx
  have q:0≤a*c:=by
   have:0≤(a*c)*(b*d):=by
    have e:(a*c)*(b*d)=(a*d)*(a*d):=by grind
    rw[e];rcases aEx 0 (a*d)with g|g
    ·exact a9b g g
    ·exact Bh g g
   exact au7 this p
  omega
 ·have:=Gr hu hx
  omega
 ·have:=Gr hu hx
  omega
 ·have:=Gr hu hx
  omega
def bet(u y x:Sp):Bool:=
 (decide (vz x u<0)&& !decide (vz y u<0))||(decide (vz x u<0)==decide (vz y u<0)&&decide (0<vz x y))
def acj(c d:Int):Int:=if c<0 then 0 else if 0<c then 2 else if d<0 then 1 else 3
theorem agc(u x y:Sp):a3b u x y=if acj (di u x) (C6 u x)=acj (di u y) (C6 u y)then decide (di x y<0)else decide (acj (di u x) (C6 u x)<acj (di u y) (C6 u y)):=rfl
theorem ax9(u y x:Sp):bet u y x=((decide (vz x u<0)&& !decide (vz y u<0))||(decide (vz x u<0)==decide (vz y u<0)&&decide (0<vz x y))):=rfl
theorem apo{u x y:Sp}(hu:u≠(0,0))(hx:x≠(0,0))(hy:y≠(0,0)):bet u y x=a3b u x y:=by
 obtain⟨su,u,rfl,hu0,hu1⟩:=Tt hu;obtain⟨sx,x,rfl,hx0,hx1⟩:=Tt hx;obtain⟨sy,y,rfl,hy0,hy1⟩:=Tt hy;have t1:=tr1 hu0 hx0 hy0;have t2:=tr1 hu0 hy0 hx0;have t3:=tr1 hx0 hu0 hy0;have t4:=tr1 hx0 hy0 hu0;have t5:=tr1 hy0 hu0 hx0;have t6:=tr1 hy0 hx0 hu0;have d1:=agt hu0 hx0;have d2:=agt hu0 hy0
 rw[J2 u x,J2 u y,J2 x y]at*
 have c1:=Rc su sx u x;have c2:=Rc su sy u y;have c3:=Rc sx sy x y;have c4:=Rc sx su x u;have c5:=Rc sy su y u;have e1:=ap5 su sx u x;have e2:=ap5 su sy u y;rw[J2 u x]at c4;rw[J2 u y]at c5;rw[ax9,agc];unfold vz
 generalize di u x=p at*
 generalize di u y=q at*
 generalize di x y=r at*
 generalize C6 u x=m at*
 generalize C6 u y=n at*
 rcases hu1 with ⟨rfl,hu1⟩|⟨rfl,hu1⟩<;>rcases hx1 with ⟨rfl,hx1⟩|⟨rfl,hx1⟩<;>rcases hy1 with ⟨rfl,hy1⟩|⟨rfl,hy1⟩<;>
  (simp only[hu1,hx1,hy1,c1,c2,c3,c4,c5,e1,e2];clear hu1 hx1 hy1 c1 c2 c3 c4 c5 e1 e2 hu hx hy hu0 hx0 hy0
   rw[Q4];simp only[Zk,cd,decide_eq_true_eq,beq_iff_eq,wg,decide_eq_false_iff_not,decide_eq_decide,acj];simp
   by_cases p0:p<0<;>by_cases p1:0<p<;>by_cases q0:q<0<;>by_cases q1:0<q<;>by_cases m0:0<m<;>by_cases n0:0<n<;>simp[p0,p1,q0,q1,m0,n0,show 0<m→¬m<0 by omega,show 0<n→¬n<0 by omega]<;>omega)
theorem ahj{s n a c:Int}(hs:0<s)(hn:s≤n)(h:a*n=s*c):(0≤c→0≤a∧a≤c)∧(c≤0→c≤a∧a≤0):=by
 have hn0:0<n:=by omega
 refine⟨fun hc=>⟨?_,?_⟩,fun hc=>⟨?_,?_⟩⟩
 ·have:=a9b (aE2 hs) hc
  rw[←h]at this;exact au7 this hn0
 ·have:=Int.mul_le_mul_of_nonneg_right hn hc
  rw[←h,xv n c]at this;exact a36 this hn0
 ·have:=Int.mul_le_mul_of_nonpos_right hn hc
  rw[←h,xv n c]at this;exact a36 this hn0
 ·have:=Gq (aE2 hs) hc
  rw[←h]at this;refine a36 (a:=n) ?_ hn0;omega
theorem au8(a:Int):0≤a*a:=by
 rcases aEx 0 a with h|h
 ·exact a9b h h
 ·exact Bh h h
theorem sq_pos{a b:Int}(h:¬(a=0∧b=0)):0<a*a+b*b:=by
 have h1:=au8 a;have h2:=au8 b;by_cases ha:a=0
 ·have hb:b≠0:=fun q=>h ⟨ha,q⟩
  have:b*b≠0:=fun q=>hb (by rcases Ao.1 q with q|q<;>exact q)
  omega
 ·have:a*a≠0:=fun q=>ha (by rcases Ao.1 q with q|q<;>exact q)
  omega
theorem agy{o v w:Sp}(h:di (jq v o) (jq w o)=0)(hd:0<C6 (jq v o) (jq w o))(hn:C6 (jq v o) (jq w o)≤C6 (jq w o) (jq w o)):onB (o,w) v=true:=by
 obtain⟨ox,oy⟩:=o;obtain⟨vx,vy⟩:=v;obtain⟨wx,wy⟩:=w
 unfold di C6 jq at*
 simp only at*
 have e1:(vx-ox)*((wx-ox)*(wx-ox)+(wy-oy)*(wy-oy))=((vx-ox)*(wx-ox)+(vy-oy)*(wy-oy))*(wx-ox):=by grind
 have e2:(vy-oy)*((wx-ox)*(wx-ox)+(wy-oy)*(wy-oy))=((vx-ox)*(wx-ox)+(vy-oy)*(wy-oy))*(wy-oy):=by grind
 have b1:=ahj hd hn e1;have b2:=ahj hd hn e2;unfold onB gj mn mx;simp only[cd,beq_iff_eq,decide_eq_true_eq]
 refine⟨by grind,?_⟩
 clear e1 e2 h hd hn;rcases aEx 0 (wx-ox)with c1|c1<;>rcases aEx 0 (wy-oy)with c2|c2
 ·have q1:=b1.1 c1
  have q2:=b2.1 c2;clear b1 b2
  refine⟨?_,?_,?_,?_⟩<;>(try split)<;>omega
 ·have q1:=b1.1 c1
  have q2:=b2.2 c2;clear b1 b2
  refine⟨?_,?_,?_,?_⟩<;>(try split)<;>omega
 ·have q1:=b1.2 c1
  have q2:=b2.1 c2;clear b1 b2
  refine⟨?_,?_,?_,?_⟩<;>(try split)<;>omega
 ·have q1:=b1.2 c1
  have q2:=b2.2 c2;clear b1 b2
  refine⟨?_,?_,?_,?_⟩<;>(try split)<;>omega
theorem ams{o v w:Sp}(h:di (jq v o) (jq w o)=0)(hd:0<C6 (jq v o) (jq w o)):onB (o,w) v=true∨onB (o,v) w=true:=by
 rcases aEx (C6 (jq v o) (jq w o)) (C6 (jq w o) (jq w o))with g|g
 ·exact .inl (agy h hd g)
 ·refine .inr (agy ?_ ?_ ?_)
  ·rw[J2,h];rfl
  ·have:C6 (jq w o) (jq v o)=C6 (jq v o) (jq w o):=by unfold C6;grind
   rw[this];exact hd
  ·generalize jq v o=x at*
   generalize jq w o=y at*
   obtain⟨a,b⟩:=x;obtain⟨c,d⟩:=y
   unfold di C6 at*
   simp only at*
   have id:(a*c+b*d)*(a*c+b*d)=(a*a+b*b)*(c*c+d*d):=by grind
   have hc:0<c*c+d*d:=by
    refine sq_pos fun⟨p,q⟩=>?_
    subst p q;omega
   have e:c*a+d*b=a*c+b*d:=by grind
   rw[e]
   generalize a*c+b*d=s at*
   generalize c*c+d*d=n at*
   generalize a*a+b*b=m at*
   rcases My m s with k|k
   ·exfalso
    have h1:m*n<s*n:=Int.mul_lt_mul_of_pos_right k hc
    have h2:s*n≤s*s:=W2 g (by omega)
    omega
   ·exact k
theorem ad8{u x y:Sp}(hu:u≠(0,0))(hx:x≠(0,0))(hy:y≠(0,0))(hn:¬(di x y=0∧0<C6 x y))(h:a3b u x y=false):a3b u y x=true:=by
 rw[agc]at h⊢;obtain⟨p,q⟩:=u;obtain⟨a,b⟩:=x;obtain⟨c,d⟩:=y
 have i1:di (p,q) (a,b)*(c*c+d*d)=di (p,q) (c,d)*C6 (a,b) (c,d)-C6 (p,q) (c,d)*di (a,b) (c,d):=by
  unfold di C6;simp only;grind
 have i2:C6 (p,q) (a,b)*(c*c+d*d)=C6 (p,q) (c,d)*C6 (a,b) (c,d)+di (p,q) (c,d)*di (a,b) (c,d):=by
  unfold di C6;simp only;grind
 have i3:C6 (a,b) (c,d)*C6 (a,b) (c,d)+di (a,b) (c,d)*di (a,b) (c,d)=(a*a+b*b)*(c*c+d*d):=by
  unfold di C6;simp only;grind
 have i4:C6 (p,q) (c,d)*C6 (p,q) (c,d)+di (p,q) (c,d)*di (p,q) (c,d)=(p*p+q*q)*(c*c+d*d):=by
  unfold di C6;simp only;grind
 have nc:0<c*c+d*d:=sq_pos fun⟨g1,g2⟩=>hy (by rw[g1,g2])
 have na:0<a*a+b*b:=sq_pos fun⟨g1,g2⟩=>hx (by rw[g1,g2])
 have np:0<p*p+q*q:=sq_pos fun⟨g1,g2⟩=>hu (by rw[g1,g2])
 have m1:=Gr na nc;have m2:=Gr np nc;rw[J2 (a,b) (c,d)]
 generalize di (p,q) (a,b)=X at*
 generalize di (p,q) (c,d)=Y at*
 generalize di (a,b) (c,d)=Z at*
 generalize C6 (p,q) (a,b)=U at*
 generalize C6 (p,q) (c,d)=V at*
 generalize C6 (a,b) (c,d)=W at*
 generalize c*c+d*d=n at*
 by_cases hk:acj X U=acj Y V
 ·rw[if_pos hk]at h
  rw[if_pos hk.symm];rw[decide_eq_false_iff_not]at h;rw[decide_eq_true_eq];rcases My 0 Z with z|z
  ·omega
  ·exfalso
   have hz:Z=0:=by omega
   subst hz
   have hW:W<0:=by
    rcases aB0 W 0 with w|w|w
    ·exact w
    ·subst w;omega
    ·exact absurd ⟨rfl,w⟩ hn
   simp only[aFl,Int.sub_zero,ahz]at i1 i2
   have sx:(0<X→Y<0)∧(X<0→0<Y)∧(X=0→Y=0):=by
    refine⟨fun g=>?_,fun g=>?_,fun g=>?_⟩
    ·have:=Gr g nc
     rcases My Y 0 with k|k
     ·exact k
     ·have:=Gq k (aE2 hW)
      omega
    ·have:=a6c g nc
     rcases My 0 Y with k|k
     ·exact k
     ·have:=Bh k (aE2 hW)
      omega
    ·subst g
     rw[ahx]at i1
     exact(Ao.1 i1.symm).resolve_right (by omega)
   have su:(0<U→V<0)∧(U<0→0<V)∧(U=0→V=0):=by
    refine⟨fun g=>?_,fun g=>?_,fun g=>?_⟩
    ·have:=Gr g nc
     rcases My V 0 with k|k
     ·exact k
     ·have:=Gq k (aE2 hW)
      omega
    ·have:=a6c g nc
     rcases My 0 V with k|k
     ·exact k
     ·have:=Bh k (aE2 hW)
      omega
    ·subst g
     rw[ahx]at i2
     exact(Ao.1 i2.symm).resolve_right (by omega)
   have nz:¬(V=0∧Y=0):=by
    rintro⟨rfl,rfl⟩;omega
   clear i1 i2 i3 i4 m1 m2 nc na np hn hu hx hy;unfold acj at hk
   split at hk<;>split at hk<;>(try split at hk)<;>(try split at hk)<;>(try split at hk)<;>omega
 ·rw[if_neg hk]at h
  rw[if_neg (fun q=>hk q.symm)]
  rw[decide_eq_false_iff_not]at h;rw[decide_eq_true_eq];omega
theorem Yi{b fr C7 s:Sp}(h1:fr≠(0,0))(h2:jq C7 b≠(0,0))(h3:jq s b≠(0,0)):S7 b fr C7 s=a3b fr (jq s b) (jq C7 b):=apo h1 h3 h2
theorem af1{b fr x:Sp}:∀(r:List Sp) (h:Sp),x∈h::r→(∀w∈h::r,w≠x→S7 b fr x w=false∧S7 b fr w x=true)→r.foldl (so b fr) h=x:=by
 intro r
 induction r with
 |nil=>intro h hm _;simp at hm;exact hm.symm
 |cons t r ih=>
  intro h hm hb;rw[ya]
  have tc:so b fr h t=h∨so b fr h t=t:=by unfold so;split<;>simp
  refine ih _ ?_ ?_
  ·rcases dn.1 hm with rfl|hm
   ·by_cases ht:t=x
    ·subst ht;rcases tc with q|q<;>rw[q]<;>simp
    ·have:=(hb t (by simp) ht).1
     unfold so;rw[this];simp
   ·rcases dn.1 hm with rfl|hm
    ·by_cases hh:h=x
     ·subst hh;rcases tc with q|q<;>rw[q]<;>simp
     ·have:=(hb h (by simp) hh).2
      unfold so;rw[this];simp
    ·exact aq7 _ hm
  ·intro w hw
   refine hb w ?_;rcases dn.1 hw with rfl|hw
   ·rcases tc with q|q<;>rw[q]<;>simp
   ·simp[hw]
theorem a6i{a b:Sp}(h:a≠b):jq a b≠(0,0):=fun q=>h (by
 unfold jq at q;have h1:=congrArg Prod.fst q;have h2:=congrArg Prod.snd q;simp only at h1 h2
 exact Jg (by omega) (by omega))
theorem a9o{a b c:Sp}(h:jq a c=jq b c):a=b:=by
 unfold jq at h;have h1:=congrArg Prod.fst h;have h2:=congrArg Prod.snd h;simp only at h1 h2
 exact Jg (by omega) (by omega)
theorem agb{a b:Sp}(h:a≠b):ru a b=false:=by
 cases q:ru a b
 ·rfl
 ·exact absurd (tq.1 q) h
theorem ac5{ls:List (List Sp)}{l:List Sp}{k:Nat}(hl:l∈ls)(hk:k<l.length):yo l k∈fl ls:=by
 unfold fl;rw[M9]
 exact⟨l,hl,by unfold i7;exact jc.2 ⟨k,du.2 hk,rfl⟩⟩
theorem ajc{es:List Ed}(h:Eg es=true)(hc:I9 es){o v w:Sp}(h1:(o,v)∈es)(h2:(o,w)∈es)(kg:v≠w):¬(di (jq v o) (jq w o)=0∧0<C6 (jq v o) (jq w o)):=by
 rintro⟨hz,hd⟩;obtain⟨i,hi,ei⟩:=Fh h1;obtain⟨k,hk,ek⟩:=Fh h2;have si:=zb h hi;have sk:=zb h hk;rw[ei]at si;rw[ek]at sk;rcases ams hz hd with g|g
 ·obtain⟨f,hf,fe⟩:=hc.1 _ h1
  obtain⟨m,hm,em⟩:=Fh hf;have:=(Ru (sk.2 m hm).1).2;rw[em,fe]at this
  exact this ⟨g,fun q=>si.1 q.symm,kg⟩
 ·obtain⟨f,hf,fe⟩:=hc.1 _ h2
  obtain⟨m,hm,em⟩:=Fh hf;have:=(Ru (si.2 m hm).1).2;rw[em,fe]at this
  exact this ⟨g,fun q=>sk.1 q.symm,fun q=>kg q.symm⟩
theorem ak2{ls:List (List Sp)}(h:Eg (fl ls)=true)(hc:I9 (fl ls))(ht:Ld ls (fl ls)=true){l:List Sp}(hl:l∈ls){k:Nat}(hk:k<l.length):Zg (fl ls) (yo l k)=yo l ((k+1)%l.length):=by
 have hm:(k+1)%l.length<l.length:=a30 _ (by omega)
 have e2:((k+1)%l.length+1)%l.length=(k+2)%l.length:=by rw[Nat.mod_add_mod]
 have m1:=ac5 hl hk;have m2:=ac5 hl hm
 have hT:∀e∈fl ls,Dl l k e=true:=by
  intro e he;obtain⟨i,hi,rfl⟩:=fj.1 hl;obtain⟨j,hj,rfl⟩:=Fh he;have a1:=ck.1 ht i (du.2 hi)
  have:ls.getD i []=ls[i]:=by simp[bn,hi]
  rw[this]at a1;exact ck.1 (ck.1 a1 k (du.2 hk)) j (du.2 hj)
 unfold Zg;unfold yo at m1 m2⊢;unfold Dl at hT;rw[e2]at m2⊢;simp only
 generalize l.getD k (0,0)=p at*
 generalize l.getD ((k+1)%l.length) (0,0)=a at*
 generalize l.getD ((k+2)%l.length) (0,0)=nx at*
 refine Jg rfl ?_;simp only;have C4:nx∈outs (fl ls) a:=Oj.2 m2
 have apart:∀{x y:Sp},(x,y)∈fl ls→x≠y:=by
  intro x y hxy;obtain⟨i,hi,ei⟩:=Fh hxy;have:=(zb h hi).1;rw[ei]at this;exact this
 have back:∀w,(a,w)∈fl ls→w≠p:=by
  rintro w hw rfl;obtain⟨i,hi,ei⟩:=Fh m1;obtain⟨j,hj,ej⟩:=Fh hw
  have kg:i≠j:=by
   rintro rfl;rw[ei]at ej;exact apart m1 (congrArg Prod.fst ej)
  have:=(a7i ((zb h hi).2 j hj).2 kg).2;rw[ei,ej]at this;exact this ⟨rfl,rfl⟩
 have key:∀w∈outs (fl ls) a,w≠nx→S7 a (jq p a) nx w=false∧S7 a (jq p a) w nx=true:=by
  intro w hw hwn;have hw':=Oj.1 hw;have t:=hT _ hw';unfold W5 at t;simp only at t;rw[if_pos (tq.2 rfl)]at t;unfold Sr at t
  rw[agb (fun q=>back w hw' (a9o q)),agb (fun q=>hwn (a9o q))]at t
  simp only[Ji,qu,wg]at t;have n1:=a6i (apart m1)
  have n2:=a6i (fun q=>apart m2 (Eq.symm q))
  have n3:=a6i (fun q=>apart hw' (Eq.symm q))
  rw[Yi n1 n2 n3,Yi n1 n3 n2];exact⟨t,ad8 n1 n3 n2 (ajc h hc hw' m2 hwn) t⟩
 cases ho:outs (fl ls) a with
 |nil=>rw[ho]at C4;simp at C4
 |cons x r=>
  rw[ho]at C4 key;exact af1 r x C4 key
theorem aA0{e f:Ed}:Vp e f=true↔e=f:=by
 unfold Vp;simp only[cd,beq_iff_eq];constructor
 ·intro h
  exact Jg (Jg h.1 h.2.1) (Jg h.2.2.1 h.2.2.2)
 ·rintro rfl;simp
theorem ac4{es:List Ed}(h:Eg es=true):es.Nodup:=by
 rw[axo,Rm];intro i j hi hj hij q
 have:=(a7i ((zb h hi).2 j hj).2 (by omega)).1
 simp only[bn,ao hi,ao hj,j3]at this;exact this q
theorem ad5{ls:List (List Sp)}(h:Eg (fl ls)=true)(hc:I9 (fl ls))(ht:Ld ls (fl ls)=true){l:List Sp}(hl:l∈ls)(h3:0<l.length)(hnd:(i7 l).Nodup)(u:List Ed)(hu:∀e∈i7 l,e∉u):
  ∀(d k m:Nat),k+d=l.length→d+1≤m→xw (fl ls) m (u++(i7 l).take k) (yo l (k%l.length))=(l.drop k,u++i7 l):=by
 intro d
 induction d with
 |zero=>
  intro k m hk hm
  obtain⟨m,rfl⟩:∃m',m=m'+1:=⟨m-1,by omega⟩
  have hk':k=l.length:=by omega
  subst hk'
  have ht:(i7 l).take l.length=i7 l:=by rw[←tu l];exact eo
  have hmt:Ki (u++i7 l) (yo l 0)=true:=Jp.2 (a2y _ (by unfold i7;exact jc.2 ⟨0,du.2 h3,rfl⟩))
  unfold xw;rw[ht,Nat.mod_self,hmt,Ma];rfl
 |succ d ih=>
  intro k m hk hm
  obtain⟨m,rfl⟩:∃m',m=m'+1:=⟨m-1,by omega⟩
  have hk':k<l.length:=by omega
  have hkm:k%l.length=k:=a63 hk';rw[hkm]
  have hg:(i7 l)[k]? =some (yo l k):=by unfold i7;simp[hk']
  have Yz:yo l k∈i7 l:=lx hg
  have hnm:Ki (u++(i7 l).take k) (yo l k)=false:=by
   cases q:Ki (u++(i7 l).take k) (yo l k)
   ·rfl
   ·exfalso
    rcases oo.1 (Jp.1 q)with q|q
    ·exact hu _ Yz q
    ·obtain⟨j,hj,ej⟩:=fj.1 q
     rw[dd]at hj;rw[aAy]at ej
     have hk2:k<(i7 l).length:=by rw[tu];exact hk'
     have e3:(i7 l)[k]=yo l k:=by rw[ao hk2]at hg;exact aAo hg
     rw[←e3]at ej
     have:=(Rm.1 (axo.1 hnd)) j k (by omega) hk2 (by omega)
     exact this ej
  unfold xw
  rw[hnm,ak2 h hc ht hl hk',we,←Lr hk',ih (k+1) m (by omega) (by omega)]
  have hd:l.drop k=l.getD k (0,0)::l.drop (k+1):=by
   rw[gd hk'];simp[bn,hk']
  rw[hd];rfl
theorem afr(es:List Ed):∀(r:List Ed) (x:List Ed×List (List Sp)),(∀e∈r,e∈x.1)→r.foldl (xc es) x=x:=by
 intro r
 induction r with
 |nil=>intro x _;rfl
 |cons e r ih=>
  intro x h
  have:xc es x e=x:=by
   unfold xc
   rw[if_pos (Jp.2 (h e (by simp)))]
  rw[ya,this]
  exact ih x fun f hf=>h f (by simp[hf])
theorem acm{ls:List (List Sp)}(h:Eg (fl ls)=true)(hc:I9 (fl ls))(ht:Ld ls (fl ls)=true)(h3:∀l∈ls,3≤l.length):
  ∀(r:List (List Sp)) (u:List Ed) (R:List (List Sp)),(∀l∈r,l∈ls)→(u++fl r).Nodup→(fl r).foldl (xc (fl ls)) (u,R)=(u++fl r,R++r.map (J3 (zu (fl ls)) (Ga (fl ls)))):=by
 intro r
 induction r with
 |nil=>intro u R _ _;simp[fl]
 |cons l r ih=>
  intro u R hr hn
  have hl:=hr l (by simp)
  have hl3:=h3 l hl;have e1:fl (l::r)=i7 l++fl r:=rfl;rw[e1]at hn⊢;rw[←we]at hn;have hn1:=(a98.1 hn).1;have hnd:=(a98.1 hn1).2.1
  have hu:∀e∈i7 l,e∉u:=fun e he hu=>(a98.1 hn1).2.2 e hu e he rfl
  rw[pw]
  have hlen:l.length≤(fl ls).length:=by rw[L9];exact a7l hl
  have tl:=ad5 h hc ht hl (by omega) hnd u hu l.length 0 ((fl ls).length+1) (by omega) (by omega)
  rw[F8,th,Nat.zero_mod,a9a]at tl
  have awe:(i7 l).foldl (xc (fl ls)) (u,R)=(u++i7 l,R++[J3 (zu (fl ls)) (Ga (fl ls)) l]):=by
   have e2:∃t,i7 l=yo l 0::t:=by
    unfold i7
    obtain⟨n,hn⟩:∃n,l.length=n+1:=⟨l.length-1,by omega⟩
    rw[hn,List.range_succ_eq_map];exact⟨_,rfl⟩
   obtain⟨t,e2⟩:=e2
   have s1:xc (fl ls) (u,R) (yo l 0)=(u++i7 l,R++[J3 (zu (fl ls)) (Ga (fl ls)) l]):=by
    unfold xc
    have:¬Ki u (yo l 0)=true:=fun q=>hu _ (by rw[e2];simp) (Jp.1 q)
    rw[if_neg this];simp only;rw[tl]
   rw[e2,ya,s1,←e2]
   refine afr _ _ _ fun e he=>?_
   simp only;rw[e2];simp[he]
  rw[awe,ih _ _ (fun x hx=>hr x (by simp[hx])) hn]
  simp[we]
theorem atv{ls:List (List Sp)}(h:Eg (fl ls)=true)(ht:Ld ls (fl ls)=true)(h3:∀l∈ls,3≤l.length):Il ls=C9 ls:=by
 have hc:=Pq h3
 have:=acm h hc ht h3 ls [] [] (fun _ hl=>hl) (by simpa using ac4 h)
 unfold Il u6 C9;rw[eo,this];simp
theorem adx{ls:List (List Sp)}(h:oh ls=true):Ew ls=true:=by
 unfold oh at h;simp only[cd]at h;obtain⟨h1,h2,h3,h4⟩:=h;obtain⟨f1,f2,f3⟩:=Y5 h1
 have hl3:∀l∈ls,3≤l.length:=by
  intro l hl;obtain⟨i,hi,rfl⟩:=fj.1 hl;have:=ck.1 h1 i (du.2 hi);unfold F4 at this
  have e:ls.getD i []=ls[i]:=by simp[bn,hi]
  rw[e]at this;simp only[cd,decide_eq_true_eq]at this;exact this.1
 unfold Ew;simp only[cd];refine⟨?_,?_,aib h2,akv h2 (Pq hl3) h3,?_⟩
 ·unfold a07
  rw[decide_eq_true f2,decide_eq_true (show ls.length≤60 by omega)]
  rfl
 ·refine ck.2 fun l hl=>?_
  unfold okL;rw[decide_eq_true (hl3 l hl),qu];exact ck.2 (f3 l hl).2
 ·rw[atv h2 h4 hl3]
  simp
def p0:Pm:=⟨⟨#[]⟩,0⟩
def yk(t:Tr)(s:ByteArray):Int:=ym (fun i=>jh (t.ps.getD i p0).n s) t.ps.length
def Af(t:Tr)(s:ByteArray):Int:=ym (fun i=>jh (t.ns.getD i n0).n s) t.ns.length
section
variable{P:Program}(A:Pr P)
theorem alz(p:Pm)(s:ByteArray):fp P A.s8 [.agg (pn p),.tz [.str s] 0] (.bool (jh p.n s)):=by
 refine cy A.mo A.Vd (by simp) ?_
 show jd P Hc (kf _ _) _;simp only[Hc,pn,jh,go_sem,aa,ab,ag]
theorem aly(n:Nd)(s:ByteArray):fp P A.s7 [.agg (xe n),.tz [.str s] 0] (.bool (jh n.n s)):=by
 refine cy A.mo A.Vc (by simp) ?_
 show jd P Ha (kf _ _) _;simp only[Ha,xe,ua,jv,ma,jh,go_sem,aa,ab,ag]
theorem aqv(t:Tr)(s:ByteArray)(hl:t.ps.length≤2^50):fp P A.gq [.agg (sf t),.str s] (.int .i64 (yk t s)):=by
 refine cy A.mo A.Za (by simp) ?_
 show jd P (Kb A.s8 A.ll) (kf _ _) _
 have h:=amc A (l:=t.ps) (g:=A.s8) (caps:=[.tz [.str s] 0]) (p:=fun i=>jh (t.ps.getD i p0).n s) (fun i hi=>by
  have e:t.ps.getD i p0=t.ps[i]:=by simp[bn,hi]
  rw[e];exact alz A _ _) hl
 simp only[ix]at h;simp only[Kb,sf,ix,jj,go_sem,aa,ab,ag];refine iv (ds:=[.dt 2 (t.ps.map pn),.mb A.s8 [.tz [.str s] 0]]) ?_ h rfl ?_
 ·simp only[go_sem,aa,iz,mc]
 ·simp only[go_sem,aa]
  rfl
theorem aqu(t:Tr)(s:ByteArray)(hl:t.ns.length≤2^50):fp P A.ja [.agg (sf t),.str s] (.int .i64 (Af t s)):=by
 refine cy A.mo A.Z9 (by simp) ?_
 show jd P (Ka A.s7 A.gr) (kf _ _) _
 have h:=aa3 A (l:=t.ns) (g:=A.s7) (caps:=[.tz [.str s] 0]) (p:=fun i=>jh (t.ns.getD i n0).n s) (fun i hi=>by
  have e:t.ns.getD i n0=t.ns[i]:=by simp[bn,hi]
  rw[e];exact aly A _ _) hl
 simp only[jj]at h;simp only[Ka,sf,ix,jj,go_sem,aa,ab];refine iv (ds:=[.dt 5 (t.ns.map xe),.mb A.s7 [.tz [.str s] 0]]) ?_ h rfl ?_
 ·simp only[go_sem,aa,iz,mc]
 ·simp only[go_sem,aa]
  rfl
theorem aix(l:List Pm)(hl:l.length≤2^40):fp P A.dm [ix l] (ix l):=
 Rg A.mo (sz:=2) (by_:=24) (z:=[.str ⟨#[]⟩,.int .i64 0]) A.Ct (els:=l.map pn) (by simp[pn,D.one]) (by simp only[ae];omega)
theorem ads(l:List ByteArray)(hl:l.length≤2^40):fp P A.lp [ma l] (ma l):=
 Rg A.mo (sz:=1) (by_:=16) (z:=[.str ⟨#[]⟩]) A.Ij (els:=l.map sv) (by simp[sv,D.one]) (by simp only[ae];omega)
theorem aiv(l:List Vl)(hl:l.length≤2^40):fp P A.j9 [ua l] (ua l):=
 Rg A.mo (sz:=3) (by_:=32) (z:=[.str ⟨#[]⟩,.int .i64 0,.int .i64 0]) A.xz (els:=l.map Cn) (by simp[Cn,D.one]) (by simp only[ae];omega)
theorem aiw(l:List Sp)(hl:l.length≤2^40):fp P A.ed [se l] (se l):=
 Rg A.mo (sz:=2) (by_:=16) (z:=[.int .i64 0,.int .i64 0]) A.yl (els:=l.map zm) (fun e he=>by obtain⟨p,_,rfl⟩:=jc.1 he;rfl) (by simp only[ae];omega)
theorem a4w(ls:List (List Sp))(h1:ls.length≤2^30)(h2:∀l∈ls,l.length≤2^40):fp P A.ie [jv ls,.mb A.ed []] (jv ls):=by
 have main:fp P A.ie [jv ls,.mb A.ed []] (Cm 1 (ls.map fun l=>[se l])):=by
  refine cy A.mo A.Js (by simp) ?_
  show jd P xl (kf _ _) _;simp only[xl,jv,go_sem,aa,reduceCtorEq]
  refine rv (fun s'=>s'.base=0∧uc s' 19 1 (ls.map fun l=>[se l]) (s'.tmp 5)) ?_ ?_
  ·refine dq ls.length (fun i s'=>s'.base=0∧s'.tmp 1= .d (.mb A.ed [])∧s'.tmp 8= .d (.dt 1 (ls.map fun l=>[se l]))∧s'.tmp 9= .d (.int .i64 ls.length)∧s'.tmp 10= .d (.int .i64 i)∧uc s' 19 1 ((ls.take i).map fun l=>[se l]) (s'.tmp 5)) ?_ ?_
   ·simp only[go_sem,aa,ae]
    exact uc.nil
   ·rintro i s' hi ⟨eb,f1,f8,f9,f10,acc⟩
    by_cases iy:(i:Int)<ls.length
    ·have cj:i<ls.length:=by omega
     have wi:=br ((i:Int)+1) (by omega) (by omega)
     have hg:=Cf cj;have hcl:=aiw A ls[i] (h2 _ (bz cj))
     have e1:(ls.take (i+1)).map (fun l=>[se l])=(ls.take i).map (fun l=>[se l])++[[se ls[i]]]:=by
      rw[ey,fb];simp[cj]
     simp only[se]at hcl;simp only[go_sem,aa,reduceCtorEq,eb,f1,f8,f9,f10,iy,hg,toNat_cast,aj];refine a2j hcl ?_;simp only[go_sem,aa,ca]
     refine r8 (els:=(ls.take i).map fun l=>[se l]) (ys:=[[se ls[i]]]) (osz:=some 1) ?_ ?_ rfl (by simp[se,D.one]) ?_ (by simp) ?_
     ·simp only[go_sem,aa]
      exact acc.mono (by simp[al]) (by simp[al])
     ·simp only[go_sem,aa,ov,se]
     ·simp only[ae,bq,dh,dd]
      omega
     ·intro s3 g
      have ha2:=g.acc (by simp)
      rw[g.tmp,bh]at ha2;simp only[eh]at ha2;simp only[go_sem,aa,reduceCtorEq,g.tmp,g.base,f1,f8,f9,f10,wi,cj,e1]
      refine⟨by rw[jz];rfl,?_⟩
      exact ha2.mono rfl rfl
    ·have:i=ls.length:=by omega
     subst this;rw[eo]at acc;simp only[go_sem,aa,reduceCtorEq,eb,f9,f10,iy];exact acc.mono rfl rfl
  ·rintro s' ⟨eb,acc⟩
   rcases acc with ⟨a1,a2⟩|⟨a1,a2,a3⟩
   ·simp only[go_sem,aa,eb,a1,a2,Cm]
   ·simp only[go_sem,aa,eb,a2,a3,Cm,if_neg a1]
 exact main.Qe Jf
theorem a6u(n:Nd)(hv:n.f.vs.length≤2^40)(h1:n.f.ls.length≤2^30)(h2:∀l∈n.f.ls,l.length≤2^40)(hi:n.ins.length≤2^40):fp P A.ft [.agg (xe n)] (.agg (xe n)):=by
 refine cy A.mo A.a1l (by simp) ?_
 show jd P (Lo A.lp A.j9 A.ie A.ed) (kf _ _) _;have c1:=ads A n.ins hi;have c2:=aiv A n.f.vs hv;have c3:=a4w A n.f.ls h1 h2;simp only[ma,ua,jv]at c1 c2 c3;simp only[Lo,xe,ma,ua,jv,go_sem,aa,ab];refine ee c1 ?_;simp only[go_sem,aa,ab,ag];refine ee c2 ?_;simp only[go_sem,aa,ab,ag];refine gf c3 ?_;simp only[go_sem,aa,ab,ag]
theorem aij(l:List Nd)(h:l.length≤2^30)(hn:∀n∈l,n.f.vs.length≤2^40∧n.f.ls.length≤2^30∧(∀q∈n.f.ls,q.length≤2^40)∧n.ins.length≤2^40):fp P A.cw [jj l,.mb A.ft []] (jj l):=by
 have main:fp P A.cw [jj l,.mb A.ft []] (Cm 5 (l.map xe)):=by
  refine cy A.mo A.Jr (by simp) ?_
  show jd P xk (kf _ _) _;simp only[xk,jj,go_sem,aa,reduceCtorEq]
  refine rv (fun s'=>s'.base=0∧uc s' 19 5 (l.map xe) (s'.tmp 5)) ?_ ?_
  ·refine dq l.length (fun i s'=>s'.base=0∧s'.tmp 1= .d (.mb A.ft [])∧s'.tmp 8= .d (.dt 5 (l.map xe))∧s'.tmp 9= .d (.int .i64 l.length)∧s'.tmp 10= .d (.int .i64 i)∧uc s' 19 5 ((l.take i).map xe) (s'.tmp 5)) ?_ ?_
   ·simp only[go_sem,aa,ae]
    exact uc.nil
   ·rintro i s' hi ⟨eb,f1,f8,f9,f10,acc⟩
    by_cases iy:(i:Int)<l.length
    ·have cj:i<l.length:=by omega
     have wi:=br ((i:Int)+1) (by omega) (by omega)
     have hg:=Fw cj
     have hm:l.getD i n0∈l:=by
      have e:l.getD i n0=l[i]:=by simp[bn,cj]
      rw[e];exact bz _
     obtain⟨k1,k2,k3,k4⟩:=hn _ hm;have hcl:=a6u A (l.getD i n0) k1 k2 k3 k4
     have e1:(l.take (i+1)).map xe=(l.take i).map xe++[xe (l.getD i n0)]:=by
      rw[ey,fb];simp[cj,bn]
     generalize l.getD i n0=n at*
     have e2:xe n=[.str n.n,.int .i64 n.f.k,.dt 3 (n.f.vs.map Cn),.dt 1 (n.f.ls.map fun l=>[se l]),.dt 1 (n.ins.map sv)]:=rfl
     rw[e2]at hcl;simp only[ua,jv,ma]at hg;simp only[go_sem,aa,ab,reduceCtorEq,eb,f1,f8,f9,f10,iy,hg,toNat_cast,aj];refine a2j hcl ?_;simp only[go_sem,aa,ab,ca]
     refine r8 (els:=(l.take i).map xe) (ys:=[xe n]) (osz:=some 5) ?_ ?_ rfl (by simp[xe,ua,jv,ma,D.one]) ?_ (by simp) ?_
     ·simp only[go_sem,aa]
      exact acc.mono (by simp[al]) (by simp[al])
     ·simp only[go_sem,aa,ov,e2]
     ·simp only[ae,bq,dh,dd]
      omega
     ·intro s3 g
      have ha2:=g.acc (by simp)
      rw[g.tmp,bh]at ha2;simp only[eh]at ha2;simp only[go_sem,aa,reduceCtorEq,g.tmp,g.base,f1,f8,f9,f10,wi,cj,e1]
      refine⟨by rw[jz];rfl,?_⟩
      exact ha2.mono rfl rfl
    ·have:i=l.length:=by omega
     subst this;rw[eo]at acc;simp only[go_sem,aa,reduceCtorEq,eb,f9,f10,iy];exact acc.mono rfl rfl
  ·rintro s' ⟨eb,acc⟩
   rcases acc with ⟨a1,a2⟩|⟨a1,a2,a3⟩
   ·simp only[go_sem,aa,eb,a1,a2,Cm]
   ·simp only[go_sem,aa,eb,a2,a3,Cm,if_neg a1]
 exact main.Qe Jf
def Mid(t:Tr):Prop:=t.ps.length≤2^30∧t.ns.length≤2^20∧∀n∈t.ns,n.f.vs.length≤2^30∧n.f.ls.length≤2^30∧(∀q∈n.f.ls,q.length≤2^30)∧n.ins.length≤2^30
theorem a0d(t:Tr)(h:Mid t):fp P A.jk [.agg (sf t)] (.agg (sf t)):=by
 refine cy A.mo A.X8 (by simp) ?_
 show jd P (Iv A.dm A.cw A.ft) (kf _ _) _;obtain⟨h1,h2,h3⟩:=h
 have c1:=aix A t.ps (by omega)
 have c2:=aij A t.ns (by omega) (fun n hn=>by
  obtain⟨k1,k2,k3,k4⟩:=h3 n hn
  exact⟨by omega,by omega,fun q hq=>by have:=k3 q hq;omega,by omega⟩)
 simp only[ix,jj]at c1 c2;simp only[Iv,sf,ix,jj,go_sem,aa,ab,ag];refine ee c1 ?_;simp only[go_sem,aa,ab];refine gf c2 ?_;simp only[go_sem,aa,ab,ag]
end
def Own(m:Mem)(id sz:Nat)(els:List (List D))(c:C):Prop:=(els=[]∧c= .d .bd)∨(c= .ref id (m.ver id) els.length∧m.bm id=some (.arr sz els))
theorem Own.mono{m m':Mem}{id sz:Nat}{els:List (List D)}{c:C}(h:Own m id sz els c)(hb:m'.bm id=m.bm id)(hv:m'.ver id=m.ver id):Own m' id sz els c:=by
 rcases h with h|⟨h1,h2⟩
 ·exact .inl h
 ·exact .inr ⟨by rw[hv];exact h1,by rw[hb];exact h2⟩
theorem Own.wf{m:Mem}{id sz:Nat}{els:List (List D)}{c:C}(h:Own m id sz els c):M7 m c:=by
 rcases h with ⟨_,rfl⟩|⟨rfl,_⟩
 ·trivial
 ·exact ar _
theorem Own.one{s:PS}{id sz:Nat}{els:List (List D)}{c:C}(h:Own s.mem id sz els c):C.one s c=true:=by
 rcases h with ⟨_,rfl⟩|⟨rfl,h2⟩
 ·rfl
 ·have h2':s.bm id=some (.arr sz els):=h2
  simp[C.one,V.live,PS.Gl,PS.mem,h2',B.Bg]
structure Ext(m:Mem)(b:Nat)(K:Nat→Prop)(m':Mem):Prop where
 low:∀i,i<b→m'.bm i=m.bm i∧m'.ver i=m.ver i∧m'.mp i=m.mp i
 high:∀i,b≤i→¬K i→m'.bm i=none
 mps:∀i,b≤i→m'.mp i=none
 ver:∀i,m.ver i≤m'.ver i
 wf:∀i,b≤i→∀x,m'.bm i=some x→Jw m' x
theorem Jw.mono{m m':Mem}(h:∀i,m.ver i≤m'.ver i){x:B}(hx:Jw m x):Jw m' x:=by
 cases x with
 |arr=>trivial
 |Ph=>trivial
 |loc cs=>exact fun c hc=>(hx c hc).mono h
 |ny sz els=>exact fun e he c hc=>(hx e he c hc).mono h
def qb(m:Mem)(b:Nat):Prop:=∀i,b≤i→m.bm i=none∧m.mp i=none
open Classical in
noncomputable def Mem.only(m:Mem)(b:Nat)(K:Nat→Prop):Mem:=⟨fun i=>if i<b∨K i then m.bm i else none,m.ver,fun i=>if i<b then m.mp i else none⟩
section
variable{P:Program}{s:PS}
theorem Qo{m:Mem}{b:Nat}{K:Nat→Prop}{r:V}(lk:∀i,m.ver i≤s.ver i)(Ts:∀i,i<b→s.bm i=m.bm i∧s.ver i=m.ver i∧s.mp i=m.mp i)(hK:∀i,K i→∀x,s.bm i=some x→Jw s.mem x)(hr:F5 s.mem r):
  Leaves m s (s.mem.only b K) r∧Ext m b K (s.mem.only b K):=by
 refine⟨⟨fun i=>⟨?_,?_⟩,lk,fun i x hx=>?_,fun i es hi=>?_,?_⟩,⟨fun i hi=>?_,fun i hi hn=>?_,fun i hi=>?_,lk,fun i hi x hx=>?_⟩⟩
 ·simp only[Mem.only]
  split
  ·exact .inr ⟨rfl,trivial⟩
  ·exact .inl rfl
 ·simp only[Mem.only]
  split
  ·exact .inr ⟨rfl,trivial⟩
  ·exact .inl rfl
 ·simp only[Mem.only]at hx
  split at hx
  ·rename_i h
   rcases a00 i b with h|h'
   ·exact .inl (by rw[←(Ts i h).1];exact hx)
   ·have hk:K i:=h.resolve_left (by omega)
    have:=hK i hk x hx;right;cases x<;>exact this
  ·cases hx
 ·simp only[Mem.only]at hi
  split at hi
  ·rename_i h
   exact .inl (by rw[←(Ts i h).2.2];exact hi)
  ·cases hi
 ·cases r<;>exact hr
 ·simp only[Mem.only]
  rw[if_pos (.inl hi),if_pos hi];exact Ts i hi
 ·simp only[Mem.only]
  rw[if_neg (by rintro(h|h);omega;exact hn h)]
 ·simp only[Mem.only]
  rw[if_neg (by omega)]
 ·simp only[Mem.only]at hx
  split at hx
  ·rename_i h
   have hk:K i:=h.resolve_left (by omega)
   have:=hK i hk x hx;cases x<;>exact this
  ·cases hx
theorem a0l{m:Mem}{b id sz:Nat}{K:Nat→Prop}{els:List (List D)}{c:C}(h:Own m id sz els c)(hk:K id):Own (m.only b K) id sz els c:=
 h.mono (by simp[Mem.only,hk]) rfl
theorem Cw.mono{f:Nat}{args:List V}{R R':Mem→V→Prop}(h:Cw P f s args R)(hR:∀m r,R m r→R' m r):Cw P f s args R':=
 ⟨h.1,fun B0 w0 nt G0 G E a w vs hF hl Di=>(h.2 B0 w0 nt G0 G E a w vs hF hl Di).mono fun _ _ ⟨v,G',E',m',r,h1,h2,h3⟩=>⟨v,G',E',m',r,h1,hR _ _ h2,h3⟩⟩
theorem Cw.split{f sz:Nat}{az:List V}{R:Mem→V→Prop}(h1:Cw P f s (.d .bd::az) R)(h2:Cw P f s (.d .Kx::az) R):Cw P f s (.d (.dt sz [])::az) R:=by
 refine⟨h1.1,fun B0 w0 nt G0 G E a w vs hF hl Di=>?_⟩
 have hl':vs.size=az.length+1:=by simpa using hl
 have h0:fh G (.dt sz []) vs[0]:=Di 0 (.d (.dt sz [])) vs[0] rfl (av (by omega))
 have rest:∀y:D,fh G y vs[0]→∀(i:Nat) (x:V) (v:Value),(V.d y::az)[i]? =some x→vs[i]? =some v→fm G E s x v:=by
  intro y hy i x v hx hv
  cases i with
  |zero=>
   simp only[ff,ah]at hx
   rw[av (by omega)]at hv
   injection hv with hv
   subst hx hv;exact hy
  |succ i=>exact Di (i+1) x v hx hv
 generalize hv0:vs[0]=v0 at h0 rest
 cases h0 with
 |Tb=>exact h1.2 B0 w0 nt G0 G E a w vs hF (by simpa using hl) (rest _ .bd)
 |dt=>exact h2.2 B0 w0 nt G0 G E a w vs hF (by simpa using hl) (rest _ .Kx)
 |Uk=>exact h2.2 B0 w0 nt G0 G E a w vs hF (by simpa using hl) (rest _ .Kx)
def axf(m:Mem)(b sz:Nat)(els:List (List D))(m':Mem)(r:V):Prop:=
 (els=[]∧m'=m∧r= .d .bd)∨(m'=m.put (b+5) (m.ver (b+5)+1) (.arr sz els)∧r= .ref (b+5) (m.ver (b+5)+1) els.length)
theorem afo(hm:P.follows .mixedOrders=true){f:Nat}{sz by_:Nat}{z:List D}(hf:dj P f {}=some (Gg sz by_ z,[.tmp 2],8))(m:Mem)(b:Nat):
  nj P f m [.d .Kx] (m.put (b+5) (m.ver (b+5)+1) (.arr sz [])) (.ref (b+5) (m.ver (b+5)+1) 0):=by
 refine jt hm hf (by simp) b (fun c=>?_) (Mem.Ja (by omega)) Mem.Nq (fun i es hi=> .inl hi) (by simp[F5,Mem.put,bh])
 show jd P (Gg sz by_ z) (u0 m [.tmp 2] _ _) _;simp only[Gg,enter,go_sem,aa,ag,reduceCtorEq,ca,Ex,ov,av1,Mt,nh,qa];intro i;simp only[Mem.put,PS.mem,al];by_cases hi:i=b+5
 ·subst hi;simp
 ·simp[hi]
theorem Zy(hm:P.follows .mixedOrders=true){f:Nat}{sz by_:Nat}{z:List D}(hf:dj P f {}=some (Gg sz by_ z,[.tmp 2],8)){els:List (List D)}(ho:∀e∈els,e.all D.one=true)(hb:els.length*by_≤2^47)(s:PS)(b:Nat):
  Cw P f s [.d (.dt sz els)] (axf s.mem b sz els):=by
 by_cases kg:els=[]
 ·subst kg
  refine Cw.split ?_ ?_
  ·have:=((akq hm hf).toR).toE (s:=s)
   refine Cw.mono this ?_;rintro m r ⟨rfl,x,rfl,rfl⟩;exact .inl ⟨rfl,rfl,rfl⟩
  ·refine Cw.mono (afo hm hf s.mem b).toR ?_
   rintro m r ⟨rfl,rfl⟩;exact .inr ⟨rfl,rfl⟩
 ·refine Cw.mono (a5w hm hf kg ho hb s.mem b).toR ?_
  rintro m r ⟨rfl,rfl⟩;exact .inr ⟨rfl,rfl⟩
theorem a5f{cs:List C}:(mkv true cs).cells s=some cs:=by
 unfold mkv
 cases h:J4 cs with
 |none=>rfl
 |some ds=>
  have:∀(cs:List C) (ds:List D),J4 cs=some ds→ds.map C.d=cs:=by
   intro cs
   induction cs with
   |nil=>intro ds h;simp[J4]at h;subst h;rfl
   |cons c r ih=>
    intro ds h
    cases c with
    |d x=>
     simp only[J4]at h;split at h
     ·rename_i l hl
      injection h with h
      subst h;simp[ih l hl]
     ·cases h
    |_=>simp[J4]at h
  simp only[V.cells,this cs ds h]
end
def M5(m:Mem)(b:Nat)(n:Nd)(e:List C):Prop:=∃cV cI,e=[.d (.str n.n),.d (.int .i64 n.f.k),cV,.d (jv n.f.ls),cI]∧Own m (b+45) 3 (n.f.vs.map Cn) cV∧Own m (b+35) 1 (n.ins.map sv) cI
def auv(m:Mem)(b:Nat)(n:Nd)(m':Mem)(r:V):Prop:=Ext m b (fun i=>i=b+45∨i=b+35) m'∧∃e,r=mkv true e∧M5 m' b n e
theorem Wr{m:Mem}{cs:List C}(h:∀c∈cs,M7 m c):F5 m (mkv true cs):=by
 unfold mkv
 cases J4 cs with
 |none=>exact h
 |some ds=>trivial
theorem M5.wf{m:Mem}{b:Nat}{n:Nd}{e:List C}(h:M5 m b n e):∀c∈e,M7 m c:=by
 obtain⟨cV,cI,rfl,h1,h2⟩:=h;intro c hc;simp only[dn,jg,or_false]at hc;rcases hc with rfl|rfl|rfl|rfl|rfl
 ·trivial
 ·trivial
 ·exact h1.wf
 ·trivial
 ·exact h2.wf
theorem V0{m:Mem}{s:PS}{b:Nat}{n:Nd}{cV cI:C}(ht:s.tmp 2= .dv (b+2) (s.ver (b+2)) 0)(hb:s.bm (b+2)=some (.loc [.d (.str n.n),.d (.int .i64 n.f.k),cV,.d (jv n.f.ls),cI]))
  (oV:Own s.mem (b+45) 3 (n.f.vs.map Cn) cV)(oI:Own s.mem (b+35) 1 (n.ins.map sv) cI)(lk:∀i,m.ver i≤s.ver i)(Ts:∀i,i<b→s.bm i=m.bm i∧s.ver i=m.ver i∧s.mp i=m.mp i)
  (hV:∀x,s.bm (b+45)=some x→Jw s.mem x)(hI:∀x,s.bm (b+35)=some x→Jw s.mem x):
  ∃m' r,auv m b n m' r∧nh s [.cell 2 5 true]=some r∧Leaves m s m' r:=by
 have hC:M5 s.mem b n [.d (.str n.n),.d (.int .i64 n.f.k),cV,.d (jv n.f.ls),cI]:=⟨cV,cI,rfl,oV,oI⟩
 obtain⟨k1,k2⟩:=Qo (m:=m) (s:=s) (b:=b) (K:=fun i=>i=b+45∨i=b+35) (r:=mkv true [.d (.str n.n),.d (.int .i64 n.f.k),cV,.d (jv n.f.ls),cI]) lk Ts (fun i hi x hx=>by
  rcases hi with rfl|rfl
  ·exact hV x hx
  ·exact hI x hx) (Wr hC.wf)
 refine⟨_,_,⟨k2,_,rfl,cV,cI,rfl,a0l oV (.inl rfl),a0l oI (.inr rfl)⟩,?_,k1⟩;simp only[nh,qa,ht,A8,PS.cs,hb,if_true];rfl
section
variable{P:Program}(A:Pr4 P)
theorem aqw(n:Nd)(hv:n.f.vs.length≤2^40)(h1:n.f.ls.length≤2^30)(h2:∀l∈n.f.ls,l.length≤2^40)(hi:n.ins.length≤2^40)(s:PS)(b:Nat)(j1:qb s.mem b):Cw P A.ft s [.d (.agg (xe n))] (auv s.mem b n):=by
 refine Vo A.mo A.Zb (by simp) b fun cx=>?_
 show jd P (Kc A.lp A.j9 A.ie A.ed) _ _;have c3:=a4w A.toPr n.f.ls h1 h2;simp only[jv]at c3;simp only[Kc,enter,xe,ma,ua,jv,go_sem,aa,ab]
 refine jw (Zy A.mo (sz:=1) (by_:=16) (z:=[.str ⟨#[]⟩]) A.Ij (els:=n.ins.map sv) (by simp[sv,D.one]) (by simp only[ae];omega) _ (b+30)) ?_
 rintro m1 r1 (⟨e1,rfl,rfl⟩|⟨rfl,rfl⟩)
 ·simp only[go_sem,aa,ab,ag,PS.gl,PS.mem]
  refine jw (Zy A.mo (sz:=3) (by_:=32) (z:=[.str ⟨#[]⟩,.int .i64 0,.int .i64 0]) A.xz (els:=n.f.vs.map Cn) (by simp[Cn,D.one]) (by simp only[ae];omega) _ (b+40)) ?_
  rintro m2 r2 (⟨e2,rfl,rfl⟩|⟨rfl,rfl⟩)
  ·simp only[go_sem,aa,ab,ag,PS.gl,PS.mem]
   refine gf c3 ?_;simp only[go_sem,aa,ab,ag,reduceCtorEq]
   refine V0 (cV:= .d .bd) (cI:= .d .bd) (by simp[al]) (by simp[al,jv]) (.inl ⟨e2,rfl⟩) (.inl ⟨e1,rfl⟩) (fun i=>?_) (fun i hi=>?_) (fun x hx=>?_) (fun x hx=>?_)
   ·simp only[al]
    (repeat' split)<;>first|omega|(subst_vars;omega)
   ·simp only[al]
    refine⟨?_,?_,trivial⟩<;>(repeat' split)<;>first|omega|rfl
   ·simp only[al,dw,aa,if_false]at hx
    first|(injection hx with hx;subst hx;trivial)|(rw[show s.bm (b+45)=none from(j1 _ (by omega)).1]at hx;cases hx)
   ·simp only[al,dw,aa,if_false]at hx
    first|(injection hx with hx;subst hx;trivial)|(rw[show s.bm (b+35)=none from(j1 _ (by omega)).1]at hx;cases hx)
  ·simp only[go_sem,aa,ab,ag,PS.gl,PS.mem,Mem.put,p8,beq_self_eq_true,ae]
   refine gf c3 ?_;simp only[go_sem,aa,ab,ag,reduceCtorEq,beq_self_eq_true,ae]
   refine V0 (cV:= .ref (b+45) (s.ver (b+45)+1) n.f.vs.length) (cI:= .d .bd) (by simp[al]) (by simp[al,jv]) (.inr ⟨by simp[PS.mem,al],by simp[PS.mem,al]⟩) (.inl ⟨e1,rfl⟩) (fun i=>?_) (fun i hi=>?_) (fun x hx=>?_) (fun x hx=>?_)
   ·simp only[al]
    (repeat' split)<;>first|omega|(subst_vars;omega)
   ·simp only[al]
    refine⟨?_,?_,trivial⟩<;>(repeat' split)<;>first|omega|rfl
   ·simp only[al,dw,aa,if_true,if_false]at hx
    first|(injection hx with hx;subst hx;trivial)|(rw[show s.bm (b+45)=none from(j1 _ (by omega)).1]at hx;cases hx)
   ·simp only[al,dw,aa,if_false]at hx
    first|(injection hx with hx;subst hx;trivial)|(rw[show s.bm (b+35)=none from(j1 _ (by omega)).1]at hx;cases hx)
 ·simp only[go_sem,aa,ab,ag,PS.gl,PS.mem,Mem.put,p8,beq_self_eq_true,ae]
  refine jw (Zy A.mo (sz:=3) (by_:=32) (z:=[.str ⟨#[]⟩,.int .i64 0,.int .i64 0]) A.xz (els:=n.f.vs.map Cn) (by simp[Cn,D.one]) (by simp only[ae];omega) _ (b+40)) ?_
  rintro m2 r2 (⟨e2,rfl,rfl⟩|⟨rfl,rfl⟩)
  ·simp only[go_sem,aa,ab,ag,PS.gl,PS.mem]
   refine gf c3 ?_;simp only[go_sem,aa,ab,ag,reduceCtorEq,beq_self_eq_true,ae]
   refine V0 (cV:= .d .bd) (cI:= .ref (b+35) (s.ver (b+35)+1) n.ins.length) (by simp[al]) (by simp[al,jv]) (.inl ⟨e2,rfl⟩) (.inr ⟨by simp[PS.mem,al],by simp[PS.mem,al]⟩) (fun i=>?_) (fun i hi=>?_) (fun x hx=>?_) (fun x hx=>?_)
   ·simp only[al]
    (repeat' split)<;>first|omega|(subst_vars;omega)
   ·simp only[al]
    refine⟨?_,?_,trivial⟩<;>(repeat' split)<;>first|omega|rfl
   ·simp only[al,dw,aa,if_false]at hx
    first|(injection hx with hx;subst hx;trivial)|(rw[show s.bm (b+45)=none from(j1 _ (by omega)).1]at hx;cases hx)
   ·simp only[al,dw,aa,if_true,if_false]at hx
    first|(injection hx with hx;subst hx;trivial)|(rw[show s.bm (b+35)=none from(j1 _ (by omega)).1]at hx;cases hx)
  ·simp only[go_sem,aa,ab,ag,PS.gl,PS.mem,Mem.put,p8,beq_self_eq_true,ae]
   refine gf c3 ?_;simp only[go_sem,aa,ab,ag,reduceCtorEq,beq_self_eq_true,ae]
   refine V0 (cV:= .ref (b+45) (s.ver (b+45)+1) n.f.vs.length) (cI:= .ref (b+35) (s.ver (b+35)+1) n.ins.length) (by simp[al]) (by simp[al,jv]) (.inr ⟨by simp[PS.mem,al],by simp[PS.mem,al]⟩) (.inr ⟨by simp[PS.mem,al],by simp[PS.mem,al]⟩) (fun i=>?_) (fun i hi=>?_) (fun x hx=>?_) (fun x hx=>?_)
   ·simp only[al]
    (repeat' split)<;>first|omega|(subst_vars;omega)
   ·simp only[al]
    refine⟨?_,?_,trivial⟩<;>(repeat' split)<;>first|omega|rfl
   ·simp only[al,dw,aa,if_true,if_false]at hx
    first|(injection hx with hx;subst hx;trivial)|(rw[show s.bm (b+45)=none from(j1 _ (by omega)).1]at hx;cases hx)
   ·simp only[al,dw,aa,if_true,if_false]at hx
    first|(injection hx with hx;subst hx;trivial)|(rw[show s.bm (b+35)=none from(j1 _ (by omega)).1]at hx;cases hx)
end
def aAm(s:PS)(id sz:Nat)(els:List (List C))(v:V):Prop:=(els=[]∧v= .d .bd)∨(els≠[]∧v= .ref id (s.ver id) els.length∧s.bm id=some (.ny sz els))
structure axe(s s':PS)(d id sz:Nat)(els:List (List C)):Prop where
 tmp:s'.tmp=jf s.tmp d (.ref id (s'.ver id) els.length)
 bm:s'.bm=jf s.bm id (some (.ny sz els))
 ver:∀j,j≠id→s'.ver j=s.ver j
 ay0:s.ver id≤s'.ver id
 mp:s'.mp=s.mp
 base:s'.base=s.base
section
variable{P:Program}{Q:Exit→PS→Prop}{K:PS→Prop}{s:PS}{r:List RI}{d:Option Nat}{af:List Nat}
theorem as1{d sz t:Nat}{z:List D}{cs:List C}(hc:(s.tmp t).cells s=some cs)(hl:cs.length=sz)(hz:z.length=sz)(h1:cs.all (C.one s)=true)
  (h:jn P r {s with tmp:=jf s.tmp d (.ref (s.base+d) (s.ver (s.base+d)+1) 1),bm:=jf s.bm (s.base+d) (some (.ny sz [cs])),ver:=jf s.ver (s.base+d) (s.ver (s.base+d)+1)} K):
  jn P (⟨some d,.Xg 1 sz z [(0,sz,.t t)],none,af⟩::r) s K:=by
 have hp:patch (z.map C.d) 0 cs=cs:=by
  unfold patch
  rw[F8,An,Gp (by simp;omega),th]
 have hf:Ju (((gu 1 z).flatten).map C.d) [(0,sz,cs)]=some cs:=by
  simp only[Ju,gu,aq1,aE1,th,ae]
  rw[if_pos ⟨hl,by omega⟩,hp]
 have ht:cs.take sz=cs:=by rw[←hl];exact eo
 rw[anf];simp only[j6.ml,Hl,aby,hc,hf,h1,if_true,j3,Fk,kn.app,PS.sn,PS.put,chunks,ht];exact h
theorem ae7{d sz b yid yver:Nat}{x y:lb}{els ys:List (List C)}(hx:aAm s (s.base+d) sz els (x.ev s))(hy:y.ev s= .ref yid yver ys.length)(hyv:s.ver yid=yver)(hyb:s.bm yid=some (.ny sz ys))
  (Ac:(ys.all fun e=>e.all (C.one s))=true)(hb:(els.length+ys.length)*b≤2^47)(kg:ys≠[])(h:∀s',axe s s' d (s.base+d) sz (els++ys)→jn P r s' K):
  jn P (⟨some d,.app sz b x y,none,af⟩::r) s K:=by
 subst hyv;have hl:0<ys.length:=acv.2 kg
 have e1:ov s (.ref yid (s.ver yid) ys.length)=none:=by simp[ov,PS.els,hyb]
 have e2:Pz s (.ref yid (s.ver yid) ys.length)=some (ys,some sz):=by simp[Pz,PS.elc,hyb]
 rw[Ex];simp only[j6.ml,hy,e1,O2,e2,j3];rw[if_pos ⟨trivial,Ac⟩];rcases hx with ⟨rfl,hx⟩|⟨at2,hx,hblk⟩
 ·simp only[hx]
  rw[if_neg (by omega),if_pos (by simpa using hb),Fk]
  refine h _ ⟨?_,?_,?_,?_,rfl,rfl⟩
  ·simp[kn.app,PS.put,PS.sn,bh]
  ·simp[kn.app,PS.put,PS.sn]
  ·intro j hj
   simp[kn.app,PS.put,PS.sn,er _ _ _ _ hj]
  ·simp[kn.app,PS.put,PS.sn,bh]
 ·have he:s.elc (s.base+d) (s.ver (s.base+d))=some (sz,els):=by
   unfold PS.elc;rw[if_pos rfl,hblk]
  simp only[hx,he];rw[if_pos ⟨trivial,trivial,hb⟩,Fk];refine h _ ⟨?_,?_,?_,?_,rfl,rfl⟩
  ·simp[kn.app,PS.put,PS.sn]
  ·simp[kn.app,PS.put,PS.sn]
  ·intro j hj
   simp[kn.app,PS.put,PS.sn]
  ·simp[kn.app,PS.put,PS.sn]
end
theorem M5.mono{m m':Mem}{b:Nat}{n:Nd}{e:List C}(h:M5 m b n e)(h1:m'.bm (b+45)=m.bm (b+45))(h2:m'.ver (b+45)=m.ver (b+45))(h3:m'.bm (b+35)=m.bm (b+35))(h4:m'.ver (b+35)=m.ver (b+35)):M5 m' b n e:=by
 obtain⟨cV,cI,rfl,k1,k2⟩:=h;exact⟨cV,cI,rfl,k1.mono h1 h2,k2.mono h3 h4⟩
theorem M5.arv{s:PS}{m:Mem}{b:Nat}{n:Nd}{e:List C}(h:M5 m b n e)(hm:s.mem=m):e.all (C.one s)=true:=by
 subst hm;obtain⟨cV,cI,rfl,k1,k2⟩:=h;simp only[Sl,aEw,k1.one,k2.one,F9];rfl
theorem M5.len{m:Mem}{b:Nat}{n:Nd}{e:List C}(h:M5 m b n e):e.length=5:=by
 obtain⟨cV,cI,rfl,_⟩:=h;rfl
def Ko(m:Mem)(b:Nat)(l:List Nd)(cells:List (List C)):Prop:=cells.length=l.length∧∀k,k<l.length→M5 m (b+64+64*k) (l.getD k n0) (cells.getD k [])
def Xo(b n:Nat)(i:Nat):Prop:=i=b+19∨∃k,k<n∧(i=b+64+64*k+45∨i=b+64+64*k+35)
def axc(m:Mem)(b:Nat)(l:List Nd)(v:V):Prop:=∃cells,Ko m b l cells∧((l=[]∧v= .d .bd)∨(l≠[]∧v= .ref (b+19) (m.ver (b+19)) l.length∧m.bm (b+19)=some (.ny 5 cells)))
def axd(m:Mem)(b:Nat)(l:List Nd)(m':Mem)(r:V):Prop:=Ext m b (Xo b l.length) m'∧axc m' b l r
section
variable{P:Program}(A:Pr4 P)
def apy(m:Mem)(b:Nat)(l:List Nd)(i:Nat)(s':PS):Prop:=
 s'.base=b∧(∀j,j<b→s'.bm j=m.bm j∧s'.ver j=m.ver j∧s'.mp j=m.mp j)∧(∀j,m.ver j≤s'.ver j)∧(∀j,b+64≤j→¬Xo b i j→s'.bm j=none)∧(∀j,b≤j→s'.mp j=none)∧(∀j,b+64≤j→∀x,s'.bm j=some x→Jw s'.mem x)∧
 ∃cells,Ko s'.mem b (l.take i) cells∧aAm s' (b+19) 5 cells (s'.tmp 5)∧(i=0→s'.bm (b+19)=none)
theorem aii(l:List Nd)(h:l.length≤2^20)(hn:∀n∈l,n.f.vs.length≤2^40∧n.f.ls.length≤2^30∧(∀q∈n.f.ls,q.length≤2^40)∧n.ins.length≤2^40)(s:PS)(b:Nat)(j1:qb s.mem b):
  Cw P A.cw s [.d (jj l),.d (.mb A.ft [])] (axd s.mem b l):=by
 refine Vo A.mo A.Iz (by simp) b fun cx=>?_
 show jd P wz _ _;simp only[wz,enter,jj,go_sem,aa,reduceCtorEq]
 refine rv (fun s'=>apy s.mem b l l.length s') ?_ ?_
 ·refine dq l.length (fun i s'=>apy s.mem b l i s'∧s'.tmp 1= .d (.mb A.ft [])∧s'.tmp 8= .d (.dt 5 (l.map xe))∧s'.tmp 9= .d (.int .i64 l.length)∧s'.tmp 10= .d (.int .i64 i)) ?_ ?_
  ·simp only[apy,go_sem,aa,PS.mem,ae]
   refine⟨fun j _=>trivial,fun j=>trivial,fun j hj _=>(j1 j (by omega)).1,fun j hj=>(j1 j hj).2,fun j hj x hx=>?_,[],⟨rfl,fun k hk=>absurd hk (by simp)⟩,.inl ⟨rfl,rfl⟩,fun _=>(j1 _ (by omega)).1⟩
   rw[show s.bm j=none from(j1 j (by omega)).1]at hx
   cases hx
  ·rintro i s' hi ⟨⟨eb,low,vle,at4,hmp,hwf,cells,hC,acc,h19⟩,f1,f8,f9,f10⟩
   by_cases iy:(i:Int)<l.length
   ·have cj:i<l.length:=by omega
    have wi:=br ((i:Int)+1) (by omega) (by omega)
    have hg:=Fw cj
    have hm:l.getD i n0∈l:=by
     have e:l.getD i n0=l[i]:=by simp[bn,cj]
     rw[e];exact bz _
    obtain⟨k1,k2,k3,k4⟩:=hn _ hm
    have htk:l.take (i+1)=l.take i++[l.getD i n0]:=by
     rw[ey];simp[cj,bn]
    generalize hnn:l.getD i n0=n at*
    simp only[ua,jv,ma]at hg;simp only[go_sem,aa,ab,reduceCtorEq,eb,f1,f8,f9,f10,iy,hg,toNat_cast,aj,a2c,aan];refine jw (aqw A n k1 k2 k3 k4 _ (b+64+64*i) ?_) ?_
    ·intro j hj
     simp only[PS.mem,al]
     rw[if_neg (by omega),if_neg (by omega)]
     refine⟨at4 j (by omega) ?_,hmp j (by omega)⟩
     rintro(h1|⟨k,hk,h1|h1⟩)<;>omega
    rintro m1 r1 ⟨⟨awx,azz,aCs,azu,ewf⟩,e,rfl,hN⟩;simp only[PS.mem,al]at awx azu
    have A1:∀j,j<b+64+64*i→j≠b+7→m1.bm j=s'.bm j∧m1.ver j=s'.ver j∧m1.mp j=s'.mp j:=by
     intro j hj kg;have:=awx j hj;simp only[if_neg kg]at this;exact this
    have A4:∀j,s'.ver j≤m1.ver j:=by
     intro j;have:=azu j;split at this
     ·rename_i h;subst h;omega
     ·exact this
    have h5:=hN.len
    have B19:=A1 (b+19) (by omega) (by omega)
    refine as1 (cs:=e) ?_ h5 ?_ ?_ ?_
    ·simp only[a0j,bh];exact a5f
    ·rfl
    ·exact hN.arv rfl
    simp only[a0j,PS.gl]
    refine ae7 (els:=cells) (ys:=[e]) (yid:=b+18) (yver:=m1.ver (b+18)+1) ?_ (by simp[al,aby]) (by simp[al]) (by simp[al]) ?_ ?_ (by simp) ?_
    ·simp only[aby,al,aa,if_false]
     rcases acc with ⟨a1,a2⟩|⟨a1,a2,a3⟩
     ·exact .inl ⟨a1,a2⟩
     ·exact .inr ⟨a1,by simp[al,a2,B19.2.1],by simp[al,B19.1,a3]⟩
    ·simp only[Sl,aEw,F9]
     refine M5.arv (m:=⟨jf m1.bm (b+18) (some (.ny 5 [e])),jf m1.ver (b+18) (m1.ver (b+18)+1),m1.mp⟩) (hN.mono ?_ ?_ ?_ ?_) rfl<;>simp only[al]<;>rw[if_neg (by omega)]
    ·have:=hC.1
     simp only[dd]at this;simp only[bq,dh];omega
    ·intro s3 g
     have hb3:∀j,s3.bm j=if j=b+19 then some (.ny 5 (cells++[e]))else if j=b+18 then some (.ny 5 [e])else m1.bm j:=by
      intro j;rw[g.bm];simp only[al]
     have hv3:∀j,j≠b+19→s3.ver j=if j=b+18 then m1.ver (b+18)+1 else m1.ver j:=by
      intro j hj;rw[g.ver j hj];simp only[al]
     have hv4:m1.ver (b+19)≤s3.ver (b+19):=by have:=g.ay0;simpa[al]using this
     have hm3:s3.mp=m1.mp:=g.mp
     have e19:(cells++[e]).length=i+1:=by
      have:=hC.1;simp only[dd]at this;simp only[cb,bq,dh];omega
     have Hb:∀j,j<b+64+64*i→j≠b+7→j≠b+18→j≠b+19→s3.bm j=s'.bm j∧s3.ver j=s'.ver j:=by
      intro j h1 h2 h3 h4;rw[hb3,hv3 j h4,if_neg h4,if_neg h3,if_neg h3];exact⟨(A1 j h1 h2).1,(A1 j h1 h2).2.1⟩
     have Hn:Ko s3.mem b (l.take (i+1)) (cells++[e]):=by
      have hcl:cells.length=i:=by
       have:=hC.1;simp only[dd]at this;omega
      have htl:(l.take i).length=i:=by simp only[dd];omega
      refine⟨by rw[e19,htk];simp only[cb,bq,dh,htl],fun k hk=>?_⟩
      rw[htk]at hk⊢;simp only[cb,bq,dh,htl]at hk;rcases T4.1 hk with hk'|rfl
      ·have g1:(l.take i++[n]).getD k n0=(l.take i).getD k n0:=by
        simp only[yb];rw[jr (by omega)]
       have g2:(cells++[e]).getD k []=cells.getD k []:=by
        simp only[yb];rw[jr (by omega)]
       rw[g1,g2]
       obtain⟨q1,q2⟩:=Hb (b+64+64*k+45) (by omega) (by omega) (by omega) (by omega)
       obtain⟨q3,q4⟩:=Hb (b+64+64*k+35) (by omega) (by omega) (by omega) (by omega)
       exact(hC.2 k (by omega)).mono q1 q2 q3 q4
      ·have g1:(l.take k++[n]).getD k n0=n:=by
        simp only[yb];rw[jy (by omega),htl,Ms];rfl
       have g2:(cells++[e]).getD k []=e:=by
        simp only[yb];rw[jy (by omega),hcl,Ms];rfl
       rw[g1,g2];refine hN.mono ?_ ?_ ?_ ?_
       ·show s3.bm _=_
        rw[hb3,if_neg (by omega),if_neg (by omega)]
       ·show s3.ver _=_
        rw[hv3 _ (by omega),if_neg (by omega)]
       ·show s3.bm _=_
        rw[hb3,if_neg (by omega),if_neg (by omega)]
       ·show s3.ver _=_
        rw[hv3 _ (by omega),if_neg (by omega)]
     have Hv:∀j,m1.ver j≤s3.ver j:=by
      intro j;by_cases hj:j=b+19
      ·subst hj;exact hv4
      ·rw[hv3 j hj]
       split
       ·rename_i h;subst h;omega
       ·exact ar _
     simp only[apy,go_sem,aa,reduceCtorEq,g.tmp,g.base,f1,f8,f9,f10,wi,cj]
     refine⟨⟨fun j hj=>?_,fun j=>gn (vle j) (gn (A4 j) (Hv j)),fun j hj hk=>?_,fun j hj=>?_,fun j hj x hx=>?_,cells++[e],Hn,.inr ⟨by simp,?_,by rw[hb3,if_pos rfl]⟩,fun h0=>by first|cases h0|omega|simp at h0⟩,by rw[jz];rfl⟩
     ·obtain⟨q1,q2⟩:=Hb j (by omega) (by omega) (by omega) (by omega)
      rw[q1,q2,hm3,(A1 j (by omega) (by omega)).2.2]
      exact low j hj
     ·rw[hb3,if_neg (by omega),if_neg (by omega)]
      rcases a00 j (b+64+64*i)with hj2|hj2
      ·rw[(A1 j hj2 (by omega)).1]
       refine at4 j hj fun hk'=>hk ?_
       rcases hk' with h1|⟨k,h1,h2⟩
       ·exact .inl h1
       ·exact .inr ⟨k,by omega,h2⟩
      ·refine azz j hj2 fun h1=>hk (.inr ⟨i,by omega,h1⟩)
     ·rw[hm3]
      rcases a00 j (b+64+64*i)with hj2|hj2
      ·by_cases h7:j=b+7
       ·subst h7
        have:=(awx (b+7) (by omega)).2.2
        rw[this];exact hmp _ hj
       ·rw[(A1 j hj2 h7).2.2];exact hmp j hj
      ·exact aCs j hj2
     ·rw[hb3,if_neg (by omega),if_neg (by omega)]at hx
      rcases a00 j (b+64+64*i)with hj2|hj2
      ·rw[(A1 j hj2 (by omega)).1]at hx
       exact(hwf j hj x hx).mono fun q=>gn (A4 q) (Hv q)
      ·exact(ewf j hj2 x hx).mono Hv
     ·simp only[]
   ·have:i=l.length:=by omega
    subst this;simp only[apy,go_sem,aa,reduceCtorEq,PS.mem,eb,f9,f10,iy];exact⟨low,vle,at4,hmp,hwf,cells,hC,acc,h19⟩
 ·rintro s' ⟨eb,low,vle,at4,hmp,hwf,cells,hC,acc,h19⟩
  simp only[go_sem,reduceCtorEq,PS.mem,eb];rw[eo]at hC
  have hK:∀i,Xo b l.length i→∀x,s'.bm i=some x→Jw s'.mem x:=by
   rintro i (rfl|⟨k,hk,h1⟩) x hx
   ·rcases acc with ⟨a1,a2⟩|⟨a1,a2,a3⟩
    ·have h0:l.length=0:=by rw[←hC.1,a1];rfl
     rw[h19 h0]at hx;cases hx
    ·rw[a3]at hx
     injection hx with hx
     subst hx;intro e he;obtain⟨k,hk,rfl⟩:=fj.1 he
     have:=(hC.2 k (by rw[←hC.1];exact hk)).wf
     have e1:cells.getD k []=cells[k]:=by simp[bn,hk]
     rw[e1]at this;exact this
   ·exact hwf i (by omega) x hx
  have hr:F5 s'.mem (s'.tmp 5):=by
   rcases acc with ⟨a1,a2⟩|⟨a1,a2,a3⟩
   ·rw[a2];trivial
   ·rw[a2];exact ar _
  obtain⟨k1,k2⟩:=Qo (m:=s.mem) (s:={tmp:=jf (jf s'.tmp 21 (s'.tmp 5)) 4 (s'.tmp 5),bm:=s'.bm,ver:=s'.ver,mp:=s'.mp,base:=b,ctx:=s'.ctx}) (b:=b) (K:=Xo b l.length) (r:=s'.tmp 5) vle low hK hr
  refine⟨_,_,⟨k2,cells,⟨hC.1,fun k hk=>?_⟩,?_⟩,rfl,k1⟩
  ·exact(hC.2 k hk).mono (by simp only[Mem.only];rw[if_pos (.inr (.inr ⟨k,hk,.inl rfl⟩))];rfl) rfl (by simp only[Mem.only];rw[if_pos (.inr (.inr ⟨k,hk,.inr rfl⟩))];rfl) rfl
  ·rcases acc with ⟨a1,a2⟩|⟨a1,a2,a3⟩
   ·have h0:l=[]:=jb (by rw[←hC.1,a1];rfl)
    exact .inl ⟨h0,a2⟩
   ·refine .inr ⟨fun h0=>a1 (jb (by rw[hC.1,h0];rfl)),by rw[a2,hC.1];rfl,?_⟩
    simp only[Mem.only];rw[if_pos (.inr (.inl rfl))];exact a3
end
def B5(m:Mem)(b:Nat)(t:Tr)(cs:List C):Prop:=∃cP cN cells,cs=[cP,cN]∧Own m (b+15) 2 (t.ps.map pn) cP∧Ko m (b+32) t.ns cells∧
 ((t.ns=[]∧cN= .d .bd)∨(t.ns≠[]∧cN= .ref (b+51) (m.ver (b+51)) t.ns.length∧m.bm (b+51)=some (.ny 5 cells)))
def auu(b n:Nat)(i:Nat):Prop:=i=b+15∨Xo (b+32) n i
def auy(m:Mem)(b:Nat)(t:Tr)(m':Mem)(r:V):Prop:=Ext m b (auu b t.ns.length) m'∧∃cs,r=mkv true cs∧B5 m' b t cs
theorem apa{m m2:Mem}{s:PS}{b:Nat}{t:Tr}{cP cN:C}{cells:List (List C)}(ht:s.tmp 2= .dv (b+2) (s.ver (b+2)) 0)(hb:s.bm (b+2)=some (.loc [cP,cN]))(hx:Ext m (b+32) (Xo (b+32) t.ns.length) m2)
  (h1:∀i,i≠b+2→s.bm i=m2.bm i)(h2:s.ver=m2.ver)(h3:s.mp=m2.mp)(oP:Own s.mem (b+15) 2 (t.ps.map pn) cP)(oN:Ko m2 (b+32) t.ns cells)
  (hN:(t.ns=[]∧cN= .d .bd)∨(t.ns≠[]∧cN= .ref (b+51) (m2.ver (b+51)) t.ns.length∧m2.bm (b+51)=some (.ny 5 cells)))
  {m0:Mem}(Ts:∀i,i<b→m.bm i=m0.bm i∧m.ver i=m0.ver i∧m.mp i=m0.mp i)(lk:∀i,m0.ver i≤m.ver i)(h15:∀x,m.bm (b+15)=some x→Jw m2 x):
  ∃m' r,auy m0 b t m' r∧nh s [.cell 2 2 true]=some r∧Leaves m0 s m' r:=by
 have e2:s.mem.ver=m2.ver:=h2
 have hC:Ko s.mem (b+32) t.ns cells:=⟨oN.1,fun k hk=>(oN.2 k hk).mono (h1 _ (by omega)) (by rw[e2]) (h1 _ (by omega)) (by rw[e2])⟩
 have hN':(t.ns=[]∧cN= .d .bd)∨(t.ns≠[]∧cN= .ref (b+51) (s.mem.ver (b+51)) t.ns.length∧s.mem.bm (b+51)=some (.ny 5 cells)):=by
  rcases hN with h|⟨q0,q1,q2⟩
  ·exact .inl h
  ·exact .inr ⟨q0,by rw[e2];exact q1,by rw[←q2];exact h1 _ (by omega)⟩
 have wfx:∀x,Jw m2 x→Jw s.mem x:=fun x hx=>hx.mono fun i=>by rw[e2];exact ar _
 obtain⟨k1,k2⟩:=Qo (m:=m0) (s:=s) (b:=b) (K:=auu b t.ns.length) (r:=mkv true [cP,cN]) (fun i=>by
   rw[h2];exact gn (lk i) (hx.ver i)) (fun i hi=>by
   rw[h1 i (by omega),h2,h3,(hx.low i (by omega)).1,(hx.low i (by omega)).2.1,(hx.low i (by omega)).2.2]
   exact Ts i hi) (fun i hi x hxx=>by
   rcases hi with rfl|hi
   ·rw[h1 _ (by omega),(hx.low (b+15) (by omega)).1]at hxx
    exact wfx _ (h15 x hxx)
   ·have hge:b+32≤i:=by rcases hi with rfl|⟨k,hk,rfl|rfl⟩<;>omega
    rw[h1 _ (by omega)]at hxx
    exact wfx _ (hx.wf i hge x hxx)) (Wr fun c hc=>by
   simp only[dn,jg,or_false]at hc;rcases hc with rfl|rfl
   ·exact oP.wf
   ·rcases hN' with ⟨_,rfl⟩|⟨_,rfl,_⟩
    ·trivial
    ·exact ar _)
 refine⟨_,_,⟨k2,_,rfl,cP,cN,cells,rfl,a0l oP (.inl rfl),⟨hC.1,fun k hk=>(hC.2 k hk).mono ?_ rfl ?_ rfl⟩,?_⟩,?_,k1⟩
 ·simp only[Mem.only]
  rw[if_pos (.inr (.inr (.inr ⟨k,hk,.inl rfl⟩)))]
 ·simp only[Mem.only]
  rw[if_pos (.inr (.inr (.inr ⟨k,hk,.inr rfl⟩)))]
 ·rcases hN' with h|⟨q0,q1,q2⟩
  ·exact .inl h
  ·refine .inr ⟨q0,q1,?_⟩
   simp only[Mem.only];rw[if_pos (.inr (.inr (.inl rfl)))];exact q2
 ·simp only[nh,qa,ht,A8,PS.cs,hb,if_true]
  rfl
section
variable{P:Program}(A:Pr4 P)
theorem ail(t:Tr)(h:Mid t)(s:PS)(b:Nat)(j1:qb s.mem b):Cw P A.jk s [.d (.agg (sf t))] (auy s.mem b t):=by
 refine Vo A.mo A.Ve (by simp) b fun cx=>?_
 show jd P (Hd A.dm A.cw A.ft) _ _;obtain⟨h1,h2,h3⟩:=h
 have hns:∀n∈t.ns,n.f.vs.length≤2^40∧n.f.ls.length≤2^30∧(∀q∈n.f.ls,q.length≤2^40)∧n.ins.length≤2^40:=fun n hn=>by
  obtain⟨k1,k2,k3,k4⟩:=h3 n hn
  exact⟨by omega,by omega,fun q hq=>by have:=k3 q hq;omega,by omega⟩
 have hcl:=fun s b=>Zy (P:=P) A.mo (sz:=2) (by_:=24) (z:=[.str ⟨#[]⟩,.int .i64 0]) A.Ct (els:=t.ps.map pn) (by simp[pn,D.one]) (by simp only[ae];omega) s b
 simp only[Hd,enter,sf,ix,ad2,go_sem,aa,ab,ag]
 repeat' (refine aGv ?_ ?_)
 all_goals
  refine jw (hcl _ (b+10)) ?_;rintro m1 r1 (⟨e1,rfl,rfl⟩|⟨rfl,rfl⟩)
 all_goals
  simp only[go_sem,aa,ab,PS.gl,PS.mem,Mem.put,p8,ae]
  refine jw (aii A t.ns (by omega) hns _ (b+32) ?_) ?_
  ·intro i hi
   simp only[PS.mem,al]
   (repeat' rw[if_neg (by omega)])
   exact j1 i (by omega)
 all_goals
  rintro m2 r2 ⟨hx,cells,hC,hv⟩
  have B2:=hx.low (b+2) (by omega)
  have B15:=hx.low (b+15) (by omega)
  simp only[PS.mem,al,dw,aa,reduceIte]at B2 B15;obtain⟨B2b,B2v,B2m⟩:=B2;obtain⟨axh,axg,aEh⟩:=B15
  have hfb:=(j1 (b+15) (by omega)).1
  simp only[PS.mem]at hfb;rcases hv with ⟨q0,rfl⟩|⟨q0,rfl,q1⟩
 all_goals
  have azh:=hC.1;simp only[go_sem,aa,ab,ag,reduceCtorEq,PS.gl,p8,beq_self_eq_true,ae,B2b,B2v,axh,axg]
  try simp only[go_sem,aa,ab,ag,reduceCtorEq,beq_self_eq_true,ae,B2b,B2v,axh,axg,q1,azh]
  refine apa (cells:=cells) ?_ (bh _ _ _) hx (fun i hi=>er _ _ _ _ hi) rfl rfl ?_ hC ?_ (fun i hi=>?_) (fun i=>?_) (fun x hx2=>?_)
  ·simp[al,B2v]
  ·first|exact .inl ⟨e1,rfl⟩|exact .inr ⟨by simp[PS.mem,axg],by simp[PS.mem,al,axh]⟩
  ·first|exact .inl ⟨q0,rfl⟩|exact .inr ⟨q0,rfl,q1⟩
  ·simp only[PS.mem,al]
   refine⟨?_,?_,trivial⟩<;>(repeat' rw[if_neg (by omega)])
  ·simp only[PS.mem,al]
   (repeat' split)<;>first|omega|(subst_vars;omega)
  ·simp only[PS.mem,al,dw,aa,reduceIte,hfb]at hx2
   first|(cases hx2;done)|(injection hx2 with hx2;subst hx2;trivial)
end
def a8j(sz by_:Nat)(z:List D):cn:=
 (.seq (
 .region [⟨some 6,.ij (.c .bd),none,[]⟩] false []) (
 (.seq (
  .region [⟨some 8,.ij (.t 0),none,[]⟩,
   ⟨some 9,.ij (.t 1),none,[]⟩,
   ⟨some 10,.ij (.t 2),none,[]⟩,
   ⟨some 11,.ij (.t 0),none,[]⟩,
   ⟨some 12,.len .dt (.t 11),none,[]⟩,
   ⟨some 13,.Kv sz (.t 8) (some (.t 9)) (some (.t 10)) (some (.t 12)),none,[]⟩] false []) (
  (.seq (
  (.seq (
   .region [⟨some 14,.ij (.t 1),none,[]⟩,
    ⟨some 15,.ij (.t 2),none,[]⟩,
    ⟨some 16,.bin .eql (.t 14) (.t 15),none,[]⟩] false []) (
   (.cond (.t 16) (
   (.seq (
    .region [⟨some 17,.ij (.t 0),none,[]⟩,
     ⟨some 6,.ij (.t 17),none,[]⟩] false []) (
    .ret))) (
   .skip))))) (
  (.seq (
   .region [⟨some 18,.ij (.t 0),none,[]⟩,
    ⟨some 19,.len .dt (.t 18),none,[]⟩,
    ⟨some 7,.ij (.t 19),none,[]⟩] false []) (
   (.seq (
   .region [⟨some 20,.ij (.t 0),none,[]⟩,
    ⟨some 21,.ij (.t 1),none,[]⟩,
    ⟨some 22,.Kv sz (.t 20) none (some (.t 21)) none,none,[]⟩,
    ⟨some 23,.ij (.t 0),none,[]⟩,
    ⟨some 24,.ij (.t 2),none,[]⟩,
    ⟨some 25,.Kv sz (.t 23) (some (.t 24)) none none,none,[]⟩,
    ⟨some 26,.app sz by_ (.t 22) (.t 25),none,[]⟩,
    ⟨some 0,.ij (.t 26),none,[]⟩] true []) (
   (.seq (
    .region [⟨some 27,.ij (.t 0),none,[]⟩,
     ⟨some 28,.ij (.t 0),none,[]⟩,
     ⟨some 29,.len .dt (.t 28),none,[]⟩,
     ⟨some 30,.ij (.t 7),none,[]⟩,
     ⟨some 31,.Kv sz (.t 27) (some (.t 29)) (some (.t 30)) none,none,[]⟩,
     ⟨none,.clr z (.t 31),none,[]⟩] false []) (
    (.seq (
    .region [⟨some 32,.trim (.t 0),none,[]⟩,
     ⟨some 6,.ij (.t 32),none,[]⟩] false []) (
    .ret))))))))))))))
section
variable{P:Program}
theorem a2b(hm:P.follows .mixedOrders=true){f:Nat}{sz by_:Nat}{z:List D}(hf:dj P f {imm:=[],rb:=[],ce:=[],cf:=[],cr:=[],kp:=[13,22,25,31,32],cv:=[],dyn:=[],od:=[]}=some (a8j sz by_ z,[.tmp 6],33))
  {els:List (List D)}{i:Nat}(hi:i<els.length)(hz:z.length=sz)(hz1:z.all D.one=true)(ho:∀e∈els,e.all D.one=true)(hl:els.length≤2^30){m:Mem}{id ver:Nat}(hb:m.bm id=some (.arr sz els))(hv:m.ver id=ver)(b:Nat):
  nj P f m [.ref id ver els.length,.d (.int .i64 i),.d (.int .i64 ((i:Int)+1))] (m.put id (ver+1) (.arr sz (els.eraseIdx i))) (.ref id (ver+1) (els.length-1)):=by
 subst hv
 refine jt hm hf (by simp) b (fun c=>?_) (Mem.Ja (by omega)) Mem.Nq (fun i es hi=> .inl hi) (by simp[F5,Mem.put,bh])
 show jd P (a8j sz by_ z) (u0 m [.tmp 6] _ _) _
 have h0:0<els.length:=by omega
 have hj:((i:Int)+1).toNat=i+1:=by omega
 have hj0:(0:Int)≤(i:Int)+1:=by omega
 have kg:((i:Int)==(i:Int)+1)=false:=by rw[beq_eq_false_iff_ne];omega
 have h1:i+1≤els.length:=by omega
 have h2:i≤i+1:=by omega
 have h3:i≤els.length:=by omega
 have Ac:(((els.drop (i+1)).take (els.length-(i+1))).all fun e=>e.all D.one)=true:=ck.2 fun e he=>ho e (List.mem_of_mem_drop (aq6 he))
 have hT:aGu (els.length-(i+1)) (aGs (i+1) els)=aGs (i+1) els:=Ab (by simp)
 rw[hT]at Ac
 have hE:i+1+(els.length-(i+1))=els.length:=by omega
 have hF:min i els.length=i:=by omega
 have hG:els.length-(els.length-1)=1:=by omega
 have hI:els.length-1+1=els.length:=by omega
 have hH:min (els.length-1) els.length=els.length-1:=by omega
 have hX:(els.take i++els.drop (i+1)).length=els.length-1:=by simp only[cb,dd,qn];omega
 have hU:∀Y:List (List D),aGu (els.length-1) (els.take i++els.drop (i+1)++Y)=els.eraseIdx i:=fun Y=>by
  rw[aEq hX,oz]
 have hW:∀Y Z:List (List D),aGu (els.length-1) (els.eraseIdx i++Y++Z)=els.eraseIdx i:=fun Y Z=>by
  rw[we]
  exact aEq (by rw[oz];exact hX)
 have hLE:(els.eraseIdx i).length=els.length-1:=by rw[oz];exact hX
 have hA:i+1-i=1:=by omega
 have hB:els.length-(i+1)+(i+1)=els.length:=by omega
 have hC2:i+(els.length-(i+1))=els.length-1:=by omega
 have hD:els.length-1≤els.length:=by omega
 simp only[a8j,enter,go_sem,aa,reduceCtorEq,ca,hb,ov,toNat_cast,aj,hj,hj0,kg,h0,h1,h2,h3,Ex,Ac,B.Bg,imp_self,implies_true,aFr,S8,hA,hC2,hD,dd,qn,cb,ar,hT,hE,hF,hG,hI,nh,qa,hz,hz1,Ms,xu,hU,hW,true_and,hLE];intro j;simp only[Mem.put,PS.mem,al];by_cases hj:j=id
 ·subst hj;simp
 ·simp[hj]
end
structure WN where
 n:Nd
 x:D
 y:D
 hx:Wk x (ua n.f.vs)
 hy:Wk y (ma n.ins)
 ox:x.one=true
 oy:y.one=true
def Ag(z:WN):List D:=[.str z.n.n,.int .i64 z.n.f.k,z.x,jv z.n.f.ls,z.y]
def WN.of(n:Nd):WN:=⟨n,ua n.f.vs,ma n.ins,Wk.refl _,Wk.refl _,rfl,rfl⟩
theorem av5(z:WN):(Ag z).length=(xe z.n).length∧∀(j:Nat) (x y:D),(Ag z)[j]? =some x→(xe z.n)[j]? =some y→Wk x y:=by
 refine⟨rfl,fun j x y hx hy=>?_⟩
 match j with
 |0=>simp[Ag,xe]at hx hy;subst hx hy;exact Wk.refl _
 |1=>simp[Ag,xe]at hx hy;subst hx hy;exact Wk.refl _
 |2=>simp[Ag,xe]at hx hy;subst hx hy;exact z.hx
 |3=>simp[Ag,xe]at hx hy;subst hx hy;exact Wk.refl _
 |4=>simp[Ag,xe]at hx hy;subst hx hy;exact z.hy
 |j+5=>simp[Ag]at hx
theorem Gi(zs:List WN):Wk (.dt 5 (zs.map Ag)) (jj (zs.map WN.n)):=by
 unfold jj
 refine Wk.dt (by simp) fun i a b ha hb=>?_
 simp only[aEt,bp,ak]at ha hb;obtain⟨z,hz,rfl⟩:=ha;obtain⟨z',hz',rfl⟩:=hb;rw[hz]at hz'
 injection hz' with hz'
 subst hz';exact av5 z
theorem Ip{x y x' y':D}(h1:Wk x x')(h2:Wk y y'):Wk (.agg [x,y]) (.agg [x',y']):=by
 refine Wk.agg rfl fun i a b ha hb=>?_
 match i with
 |0=>simp at ha hb;subst ha hb;exact h1
 |1=>simp at ha hb;subst ha hb;exact h2
 |i+2=>simp at ha
structure Edt where
 k:Int
 n:ByteArray
 t:ByteArray
 v:Int
 nd:Nd
def l9(e:Edt):List D:=[.int .i64 e.k,.str e.n,.str e.t,.int .i64 e.v,.str e.nd.n,.int .i64 e.nd.f.k,ua e.nd.f.vs,jv e.nd.f.ls,ma e.nd.ins]
def O3(m:Mem)(u lo:Nat)(ps:List Pm)(zs:List WN):Prop:=
 ∃pid nid cP cN,lo≤pid∧lo≤nid∧pid≠nid∧m.bm u=some (.loc [cP,cN])∧Own m pid 2 (ps.map pn) cP∧Own m nid 5 (zs.map Ag) cN
def KOk(P:Program)(f:Nat)(e:Edt)(ps ps':List Pm)(zs zs':List WN)(code:Int):Prop:=
 ∀(m:Mem) (u lo b:Nat),O3 m u lo ps zs→u<lo→lo≤b→qb m b→∃m',nj P f m [.dv u (m.ver u) 0,.d (.agg (l9 e))] m' (.d (.int .i64 code))∧O3 m' u lo ps' zs'∧
  (∀j,j<lo→j≠u→m'.bm j=m.bm j∧m'.ver j=m.ver j)∧m'.ver u=m.ver u∧m'.mp=m.mp∧qb m' (b+64)
theorem qb.mono{m:Mem}{b c:Nat}(h:qb m b)(hc:b≤c):qb m c:=fun i hi=>h i (by omega)
theorem qb.lt{m:Mem}{b i:Nat}{x:B}(h:qb m b)(hx:m.bm i=some x):i<b:=by
 rcases a00 i b with h'|h'
 ·exact h'
 ·rw[(h i h').1]at hx;cases hx
section
variable{P:Program}(A:Pr P)
theorem Dm{ps:List Pm}{ns:List Nd}(s:ByteArray)(hl:ps.length≤2^50){x y:D}(hx:Wk x (ix ps))(hy:Wk y (jj ns)):fp P A.gq [.agg [x,y],.str s] (.int .i64 (yk ⟨ps,ns⟩ s)):=by
 refine(aqv A ⟨ps,ns⟩ s hl).args rfl fun i a b ha hb=>?_
 match i with
 |0=>simp at ha hb;subst ha hb;exact Ip hx hy
 |1=>simp at ha hb;subst ha hb;exact Wk.refl _
 |i+2=>simp at ha
theorem Gv{ps:List Pm}{ns:List Nd}(s:ByteArray)(hl:ns.length≤2^50){x y:D}(hx:Wk x (ix ps))(hy:Wk y (jj ns)):fp P A.ja [.agg [x,y],.str s] (.int .i64 (Af ⟨ps,ns⟩ s)):=by
 refine(aqu A ⟨ps,ns⟩ s hl).args rfl fun i a b ha hb=>?_
 match i with
 |0=>simp at ha hb;subst ha hb;exact Ip hx hy
 |1=>simp at ha hb;subst ha hb;exact Wk.refl _
 |i+2=>simp at ha
end
theorem ql{m:Mem}{b j:Nat}(j1:qb m b)(hj:b≤j){bk:Nat→Option B}{vr:Nat→Nat}{x:B}{v:Nat}(h1:bk=jf m.bm j (some x))(h2:vr=jf m.ver j v):Clean ⟨bk,vr,m.mp⟩ m:=by
 subst h1 h2;intro i;by_cases hi:i=j
 ·subst hi;exact⟨.inl (j1 _ hj).1,.inl (j1 _ hj).2⟩
 ·exact⟨.inr ⟨(er _ _ _ _ hi).symm,(er _ _ _ _ hi).symm⟩,.inr ⟨rfl,(er _ _ _ _ hi).symm⟩⟩
theorem axn{m:Mem}{b j id w:Nat}{y:B}(j1:qb m b)(hj:b≤j)(kg:id≠j){bk:Nat→Option B}{vr:Nat→Nat}{x:B}{v:Nat}(h1:bk=jf (jf m.bm j (some x)) id (some y))(h2:vr=jf (jf m.ver j v) id w):Clean ⟨bk,vr,m.mp⟩ (m.put id w y):=by
 subst h1 h2;intro i;simp only[Mem.put,al];by_cases hi:i=id
 ·subst hi
  simp
 ·rw[if_neg hi,if_neg hi,if_neg hi,if_neg hi]
  by_cases hi2:i=j
  ·subst hi2;exact⟨.inl (j1 _ hj).1,.inl (j1 _ hj).2⟩
  ·rw[if_neg hi2,if_neg hi2]
   simp
theorem Hm(t:Tr)(s:ByteArray):yk t s= -1∨∃k,k<t.ps.length∧yk t s=(k:Int):=by
 rcases Pp (fun i=>jh (t.ps.getD i p0).n s) t.ps.length with ⟨h,_⟩|⟨i,hi,h,_⟩
 ·exact .inl h
 ·exact .inr ⟨i,hi,h⟩
theorem Hk(t:Tr)(s:ByteArray):Af t s= -1∨∃k,k<t.ns.length∧Af t s=(k:Int):=by
 rcases Pp (fun i=>jh (t.ns.getD i n0).n s) t.ns.length with ⟨h,_⟩|⟨i,hi,h,_⟩
 ·exact .inl h
 ·exact .inr ⟨i,hi,h⟩
section
variable{P:Program}(A:Pr4 P)
theorem asu(e:Edt)(ps:List Pm)(zs:List WN)(hl:ps.length≤2^50)(hI:yk ⟨ps,zs.map WN.n⟩ e.n= -1):KOk P A.ph e ps ps zs zs 4:=by
 intro m u lo b hT hu hlo j1;obtain⟨pid,nid,cP,cN,hp,hn,kg,x7,oP,oN⟩:=id hT
 refine⟨m,?_,hT,fun _ _ _=>⟨rfl,rfl⟩,rfl,rfl,j1.mono (by omega)⟩
 have hf3:=(j1 (b+3) (by omega)).1
 have r4:=fun(x y:D) (hx:Wk x (ix ps)) (hy:Wk y (jj (zs.map WN.n)))=>Dm A.toPr e.n hl hx hy
 rw[hI]at r4
 have oe:u≠b+3:=by omega
 refine jt A.mo A.Mp (by simp) b (fun c=>?_) (fun i=>ar _) (fun i b' ow=> .inl ow) (fun i es hi=> .inl hi) trivial
 show jd P (qf A.gq) (u0 m [.tmp 4] _ _) _
 have hp3:∀{x},m.bm pid=some x→pid≠b+3:=fun h=>by have:=j1.lt h;omega
 have hn3:∀{x},m.bm nid=some x→nid≠b+3:=fun h=>by have:=j1.lt h;omega
 rcases oP with ⟨e1,rfl⟩|⟨rfl,Ad⟩<;>rcases oN with ⟨e2,rfl⟩|⟨rfl,xp⟩
 ·simp only[qf,enter,l9,go_sem,aa,ab,ag,reduceCtorEq,ax,x7,oe]
  refine iv (ds:=[.agg [.bd,.bd],.str e.n]) ?_ (r4 _ _ (by rw[dg.1 e1];exact Wk.bd) (by rw[dg.1 e2];exact Wk.bd)) rfl ?_
  ·simp only[go_sem]
  ·simp only[go_sem,aa,bx,bc,reduceCtorEq,PS.mem,nh,qa]
   exact ql j1 (by omega) rfl rfl
 ·simp only[qf,enter,l9,go_sem,aa,ab,ag,reduceCtorEq,ax,x7,oe]
  refine iv (ds:=[.agg [.bd,.dt 5 (zs.map Ag)],.str e.n]) ?_ (r4 _ _ (by rw[dg.1 e1];exact Wk.bd) (Gi zs)) rfl ?_
  ·simp only[go_sem,iz,mc,xp,hn3 xp]
  ·simp only[go_sem,aa,bx,bc,reduceCtorEq,PS.mem,ae,nh,qa]
   exact ql j1 (by omega) rfl rfl
 ·simp only[qf,enter,l9,go_sem,aa,ab,ag,reduceCtorEq,ax,x7,oe]
  refine iv (ds:=[.agg [.dt 2 (ps.map pn),.bd],.str e.n]) ?_ (r4 _ _ (Wk.refl _) (by rw[dg.1 e2];exact Wk.bd)) rfl ?_
  ·simp only[go_sem,iz,mc,Ad,hp3 Ad]
  ·simp only[go_sem,aa,bx,bc,reduceCtorEq,PS.mem,ae,nh,qa]
   exact ql j1 (by omega) rfl rfl
 ·simp only[qf,enter,l9,go_sem,aa,ab,ag,reduceCtorEq,ax,x7,oe]
  refine iv (ds:=[.agg [.dt 2 (ps.map pn),.dt 5 (zs.map Ag)],.str e.n]) ?_ (r4 _ _ (Wk.refl _) (Gi zs)) rfl ?_
  ·simp only[go_sem,iz,mc,xp,Ad,hn3 xp,hp3 Ad]
  ·simp only[go_sem,aa,bx,bc,reduceCtorEq,PS.mem,ae,nh,qa]
   exact ql j1 (by omega) rfl rfl
theorem asq(e:Edt)(ps:List Pm)(zs:List WN)(hl:ps.length≤2^50)(hI:yk ⟨ps,zs.map WN.n⟩ e.n= -1):KOk P A.pe e ps ps zs zs 4:=by
 intro m u lo b hT hu hlo j1;obtain⟨pid,nid,cP,cN,hp,hn,kg,x7,oP,oN⟩:=id hT
 refine⟨m,?_,hT,fun _ _ _=>⟨rfl,rfl⟩,rfl,rfl,j1.mono (by omega)⟩
 have hf3:=(j1 (b+3) (by omega)).1
 have r4:=fun(x y:D) (hx:Wk x (ix ps)) (hy:Wk y (jj (zs.map WN.n)))=>Dm A.toPr e.n hl hx hy
 rw[hI]at r4
 have oe:u≠b+3:=by omega
 refine jt A.mo A.Mo (by simp) b (fun c=>?_) (fun i=>ar _) (fun i b' ow=> .inl ow) (fun i es hi=> .inl hi) trivial
 show jd P (qe A.gq A.lg) (u0 m [.tmp 4] _ _) _
 have hp3:∀{x},m.bm pid=some x→pid≠b+3:=fun h=>by have:=j1.lt h;omega
 have hn3:∀{x},m.bm nid=some x→nid≠b+3:=fun h=>by have:=j1.lt h;omega
 rcases oP with ⟨e1,rfl⟩|⟨rfl,Ad⟩<;>rcases oN with ⟨e2,rfl⟩|⟨rfl,xp⟩
 ·simp only[qe,enter,l9,go_sem,aa,ab,ag,reduceCtorEq,ax,x7,oe]
  refine iv (ds:=[.agg [.bd,.bd],.str e.n]) ?_ (r4 _ _ (by rw[dg.1 e1];exact Wk.bd) (by rw[dg.1 e2];exact Wk.bd)) rfl ?_
  ·simp only[go_sem]
  ·simp only[go_sem,aa,bx,bc,reduceCtorEq,PS.mem,nh,qa]
   exact ql j1 (by omega) rfl rfl
 ·simp only[qe,enter,l9,go_sem,aa,ab,ag,reduceCtorEq,ax,x7,oe]
  refine iv (ds:=[.agg [.bd,.dt 5 (zs.map Ag)],.str e.n]) ?_ (r4 _ _ (by rw[dg.1 e1];exact Wk.bd) (Gi zs)) rfl ?_
  ·simp only[go_sem,iz,mc,xp,hn3 xp]
  ·simp only[go_sem,aa,bx,bc,reduceCtorEq,PS.mem,ae,nh,qa]
   exact ql j1 (by omega) rfl rfl
 ·simp only[qe,enter,l9,go_sem,aa,ab,ag,reduceCtorEq,ax,x7,oe]
  refine iv (ds:=[.agg [.dt 2 (ps.map pn),.bd],.str e.n]) ?_ (r4 _ _ (Wk.refl _) (by rw[dg.1 e2];exact Wk.bd)) rfl ?_
  ·simp only[go_sem,iz,mc,Ad,hp3 Ad]
  ·simp only[go_sem,aa,bx,bc,reduceCtorEq,PS.mem,ae,nh,qa]
   exact ql j1 (by omega) rfl rfl
 ·simp only[qe,enter,l9,go_sem,aa,ab,ag,reduceCtorEq,ax,x7,oe]
  refine iv (ds:=[.agg [.dt 2 (ps.map pn),.dt 5 (zs.map Ag)],.str e.n]) ?_ (r4 _ _ (Wk.refl _) (Gi zs)) rfl ?_
  ·simp only[go_sem,iz,mc,xp,Ad,hn3 xp,hp3 Ad]
  ·simp only[go_sem,aa,bx,bc,reduceCtorEq,PS.mem,ae,nh,qa]
   exact ql j1 (by omega) rfl rfl
theorem asm(e:Edt)(ps:List Pm)(zs:List WN)(hl:zs.length≤2^50)(hI:Af ⟨ps,zs.map WN.n⟩ e.n= -1):KOk P A.pa e ps ps zs zs 4:=by
 intro m u lo b hT hu hlo j1;obtain⟨pid,nid,cP,cN,hp,hn,kg,x7,oP,oN⟩:=id hT
 refine⟨m,?_,hT,fun _ _ _=>⟨rfl,rfl⟩,rfl,rfl,j1.mono (by omega)⟩
 have hf3:=(j1 (b+3) (by omega)).1
 have r4:=fun(x y:D) (hx:Wk x (ix ps)) (hy:Wk y (jj (zs.map WN.n)))=>Gv A.toPr e.n (by simpa using hl) hx hy
 rw[hI]at r4
 have oe:u≠b+3:=by omega
 refine jt A.mo A.Mn (by simp) b (fun c=>?_) (fun i=>ar _) (fun i b' ow=> .inl ow) (fun i es hi=> .inl hi) trivial
 show jd P (qd A.ja A.lu) (u0 m [.tmp 4] _ _) _
 have hp3:∀{x},m.bm pid=some x→pid≠b+3:=fun h=>by have:=j1.lt h;omega
 have hn3:∀{x},m.bm nid=some x→nid≠b+3:=fun h=>by have:=j1.lt h;omega
 rcases oP with ⟨e1,rfl⟩|⟨rfl,Ad⟩<;>rcases oN with ⟨e2,rfl⟩|⟨rfl,xp⟩
 ·simp only[qd,enter,l9,go_sem,aa,ab,ag,reduceCtorEq,ax,x7,oe]
  refine iv (ds:=[.agg [.bd,.bd],.str e.n]) ?_ (r4 _ _ (by rw[dg.1 e1];exact Wk.bd) (by rw[dg.1 e2];exact Wk.bd)) rfl ?_
  ·simp only[go_sem]
  ·simp only[go_sem,aa,bx,bc,reduceCtorEq,PS.mem,nh,qa]
   exact ql j1 (by omega) rfl rfl
 ·simp only[qd,enter,l9,go_sem,aa,ab,ag,reduceCtorEq,ax,x7,oe]
  refine iv (ds:=[.agg [.bd,.dt 5 (zs.map Ag)],.str e.n]) ?_ (r4 _ _ (by rw[dg.1 e1];exact Wk.bd) (Gi zs)) rfl ?_
  ·simp only[go_sem,iz,mc,xp,hn3 xp]
  ·simp only[go_sem,aa,bx,bc,reduceCtorEq,PS.mem,ae,nh,qa]
   exact ql j1 (by omega) rfl rfl
 ·simp only[qd,enter,l9,go_sem,aa,ab,ag,reduceCtorEq,ax,x7,oe]
  refine iv (ds:=[.agg [.dt 2 (ps.map pn),.bd],.str e.n]) ?_ (r4 _ _ (Wk.refl _) (by rw[dg.1 e2];exact Wk.bd)) rfl ?_
  ·simp only[go_sem,iz,mc,Ad,hp3 Ad]
  ·simp only[go_sem,aa,bx,bc,reduceCtorEq,PS.mem,ae,nh,qa]
   exact ql j1 (by omega) rfl rfl
 ·simp only[qd,enter,l9,go_sem,aa,ab,ag,reduceCtorEq,ax,x7,oe]
  refine iv (ds:=[.agg [.dt 2 (ps.map pn),.dt 5 (zs.map Ag)],.str e.n]) ?_ (r4 _ _ (Wk.refl _) (Gi zs)) rfl ?_
  ·simp only[go_sem,iz,mc,xp,Ad,hn3 xp,hp3 Ad]
  ·simp only[go_sem,aa,bx,bc,reduceCtorEq,PS.mem,ae,nh,qa]
   exact ql j1 (by omega) rfl rfl
theorem asr(e:Edt)(ps:List Pm)(zs:List WN)(hl:ps.length≤2^50){k:Nat}(hI:yk ⟨ps,zs.map WN.n⟩ e.n=(k:Int)):KOk P A.pg e ps ps zs zs 7:=by
 intro m u lo b hT hu hlo j1;obtain⟨pid,nid,cP,cN,hp,hn,kg,x7,oP,oN⟩:=id hT
 refine⟨m,?_,hT,fun _ _ _=>⟨rfl,rfl⟩,rfl,rfl,j1.mono (by omega)⟩
 have hf3:=(j1 (b+3) (by omega)).1
 have r4:=fun(x y:D) (hx:Wk x (ix ps)) (hy:Wk y (jj (zs.map WN.n)))=>Dm A.toPr e.n hl hx hy
 rw[hI]at r4
 have oe:u≠b+3:=by omega
 refine jt A.mo A.Hw (by simp) b (fun c=>?_) (fun i=>ar _) (fun i b' ow=> .inl ow) (fun i es hi=> .inl hi) trivial
 show jd P (mh A.gq) (u0 m [.tmp 4] _ _) _
 have hp3:∀{x},m.bm pid=some x→pid≠b+3:=fun h=>by have:=j1.lt h;omega
 have hn3:∀{x},m.bm nid=some x→nid≠b+3:=fun h=>by have:=j1.lt h;omega
 rcases oP with ⟨e1,rfl⟩|⟨rfl,Ad⟩<;>rcases oN with ⟨e2,rfl⟩|⟨rfl,xp⟩
 ·simp only[mh,enter,l9,go_sem,aa,ab,ag,reduceCtorEq,ax,x7,oe]
  refine iv (ds:=[.agg [.bd,.bd],.str e.n]) ?_ (r4 _ _ (by rw[dg.1 e1];exact Wk.bd) (by rw[dg.1 e2];exact Wk.bd)) rfl ?_
  ·simp only[go_sem]
  ·simp only[go_sem,aa,reduceCtorEq,PS.mem,nh,qa,aj]
   exact ql j1 (by omega) rfl rfl
 ·simp only[mh,enter,l9,go_sem,aa,ab,ag,reduceCtorEq,ax,x7,oe]
  refine iv (ds:=[.agg [.bd,.dt 5 (zs.map Ag)],.str e.n]) ?_ (r4 _ _ (by rw[dg.1 e1];exact Wk.bd) (Gi zs)) rfl ?_
  ·simp only[go_sem,iz,mc,xp,hn3 xp]
  ·simp only[go_sem,aa,reduceCtorEq,PS.mem,ae,nh,qa,aj]
   exact ql j1 (by omega) rfl rfl
 ·simp only[mh,enter,l9,go_sem,aa,ab,ag,reduceCtorEq,ax,x7,oe]
  refine iv (ds:=[.agg [.dt 2 (ps.map pn),.bd],.str e.n]) ?_ (r4 _ _ (Wk.refl _) (by rw[dg.1 e2];exact Wk.bd)) rfl ?_
  ·simp only[go_sem,iz,mc,Ad,hp3 Ad]
  ·simp only[go_sem,aa,reduceCtorEq,PS.mem,ae,nh,qa,aj]
   exact ql j1 (by omega) rfl rfl
 ·simp only[mh,enter,l9,go_sem,aa,ab,ag,reduceCtorEq,ax,x7,oe]
  refine iv (ds:=[.agg [.dt 2 (ps.map pn),.dt 5 (zs.map Ag)],.str e.n]) ?_ (r4 _ _ (Wk.refl _) (Gi zs)) rfl ?_
  ·simp only[go_sem,iz,mc,xp,Ad,hn3 xp,hp3 Ad]
  ·simp only[go_sem,aa,reduceCtorEq,PS.mem,ae,nh,qa,aj]
   exact ql j1 (by omega) rfl rfl
end
def a9t(ps:List Pm)(k:Nat)(v:Int):List Pm:=ps.set k ⟨(ps.getD k p0).n,v⟩
theorem Gu{α β:Type}(f:α→β)(l:List α)(k:Nat)(x:α):(l.map f).set k (f x)=(l.set k x).map f:=by
 rw[aG9]
theorem Own.ref{m:Mem}{id sz:Nat}{els:List (List D)}{c:C}(h:Own m id sz els c)(kg:els≠[]):c= .ref id (m.ver id) els.length∧m.bm id=some (.arr sz els):=by
 rcases h with ⟨h1,_⟩|h
 ·exact absurd h1 kg
 ·exact h
theorem aco{ps:List Pm}{k:Nat}(h:k<ps.length):(ps.map pn)[k]? =some [.str (ps.getD k p0).n,.int .i64 (ps.getD k p0).v]:=by
 simp[bn,h,pn]
def Hj(m:Mem)(u pid w:Nat)(ps:List Pm)(cN:C):Mem:=(m.put pid w (.arr 2 (ps.map pn))).put u (m.ver u) (.loc [.ref pid w ps.length,cN])
def Hi(m:Mem)(u nid w:Nat)(zs:List WN)(cP:C):Mem:=(m.put nid w (.arr 5 (zs.map Ag))).put u (m.ver u) (.loc [cP,.ref nid w zs.length])
theorem ah2{P:Program}(hm:P.follows .mixedOrders=true){f:Nat}{an:Ann}{rc:cn}{nt:Nat}(hf:dj P f an=some (rc,[.tmp 4],nt))(hnt:2≤nt){e:Edt}{code:Int}{ps':List Pm}{zs:List WN}{m:Mem}{u lo b pid nid w:Nat}{cN:C}
  (hu:u<lo)(hlo:lo≤b)(j1:qb m b)(hp:lo≤pid)(hn:lo≤nid)(kg:pid≠nid)(oN:Own m nid 5 (zs.map Ag) cN)(Ad:pid<b+64)(hw:m.ver pid≤w)
  (h:∀c,jd P rc (u0 m [.tmp 4] (Hj m u pid w ps' cN) (.d (.int .i64 code))) (enter m [.dv u (m.ver u) 0,.d (.agg (l9 e))] b c)):
  ∃m',nj P f m [.dv u (m.ver u) 0,.d (.agg (l9 e))] m' (.d (.int .i64 code))∧O3 m' u lo ps' zs∧(∀j,j<lo→j≠u→m'.bm j=m.bm j∧m'.ver j=m.ver j)∧m'.ver u=m.ver u∧m'.mp=m.mp∧qb m' (b+64):=by
 have hup:u≠pid:=by omega
 have hun:u≠nid:=by omega
 have oN':Own (Hj m u pid w ps' cN) nid 5 (zs.map Ag) cN:=oN.mono (by simp only[Hj,Mem.put,al];rw[if_neg (by omega),if_neg (by omega)]) (by simp only[Hj,Mem.put,al];rw[if_neg (by omega),if_neg (by omega)])
 have hv:∀i,m.ver i≤(Hj m u pid w ps' cN).ver i:=fun i=>by
  simp only[Hj,Mem.put,al]
  (repeat' split)<;>first|omega|(subst_vars;omega)
 refine⟨Hj m u pid w ps' cN,jt hm hf hnt b h hv (fun i x hx=>?_) (fun i es hi=> .inl hi) trivial,⟨pid,nid,.ref pid w ps'.length,cN,hp,hn,kg,by simp only[Hj,Mem.put,bh],.inr ⟨?_,?_⟩,oN'⟩,fun j h1 h2=>⟨?_,?_⟩,by simp only[Hj,Mem.put,bh],rfl,fun i hi=>⟨?_,(j1 i (by omega)).2⟩⟩
 ·simp only[Hj,Mem.put,al]at hx
  split at hx
  ·injection hx with hx
   subst hx
   refine .inr fun c hc=>?_
   simp only[dn,jg,or_false]at hc;rcases hc with rfl|rfl
   ·show w≤(Hj m u pid w ps' cN).ver pid
    simp only[Hj,Mem.put,al]
    rw[if_neg (by omega),if_pos trivial]
    exact ar _
   ·exact oN'.wf
  ·split at hx
   ·injection hx with hx;subst hx;exact .inr trivial
   ·exact .inl hx
 ·simp only[Hj,Mem.put,al,ae]
  rw[if_neg (by omega),if_pos trivial]
 ·simp only[Hj,Mem.put,al]
  rw[if_neg (by omega),if_pos trivial]
 ·simp only[Hj,Mem.put,al]
  rw[if_neg h2,if_neg (by omega)]
 ·simp only[Hj,Mem.put,al]
  rw[if_neg h2,if_neg (by omega)]
 ·simp only[Hj,Mem.put,al]
  rw[if_neg (by omega),if_neg (by omega)]
  exact(j1 i (by omega)).1
theorem rp{s m':Mem}{b:Nat}(Ts:∀i,i<b→m'.bm i=s.bm i∧m'.ver i=s.ver i∧m'.mp i=s.mp i)(azd:∀i,b≤i→(m'.bm i=none∨(m'.bm i=s.bm i∧m'.ver i=s.ver i))∧m'.mp i=none):Clean s m':=by
 intro i;rcases a00 i b with h|h
 ·obtain⟨h1,h2,h3⟩:=Ts i h
  exact⟨.inr ⟨h1,h2⟩,.inr ⟨h3,h2⟩⟩
 ·obtain⟨h1,h2⟩:=azd i h
  exact⟨h1,.inl h2⟩
section
variable{P:Program}(A:Pr4 P)
theorem ast(e:Edt)(ps:List Pm)(zs:List WN)(hl:ps.length≤2^50){k:Nat}(hk:k<ps.length)(hI:yk ⟨ps,zs.map WN.n⟩ e.n=(k:Int)):KOk P A.ph e ps (a9t ps k e.v) zs zs 0:=by
 intro m u lo b hT hu hlo j1;obtain⟨pid,nid,cP,cN,hp,hn,kg,x7,oP,oN⟩:=hT
 have ao7:ps.map pn≠[]:=fun h=>by have:=congrArg Cq h;simp at this;subst this;simp at hk
 obtain⟨rfl,Ad⟩:=oP.ref ao7
 have r4:=fun(x y:D) (hx:Wk x (ix ps)) (hy:Wk y (jj (zs.map WN.n)))=>Dm A.toPr e.n hl hx hy
 rw[hI]at r4
 have oe:u≠b+3:=by omega
 have hp3:pid≠b+3:=by have:=j1.lt Ad;omega
 have hup:u≠pid:=by omega
 have L1:(ps.map pn).set k [.str (ps.getD k p0).n,.int .i64 e.v]=(a9t ps k e.v).map pn:=by
  unfold a9t;rw[←Gu];rfl
 refine ah2 A.mo A.Mp (by simp) hu hlo j1 hp hn kg oN (by have:=j1.lt Ad;omega) (ar _) fun c=>?_
 show jd P (qf A.gq) (u0 m [.tmp 4] _ _) _
 have hn3:∀{x},m.bm nid=some x→nid≠b+3:=fun h=>by have:=j1.lt h;omega
 have hg:=aco hk
 have hk0:¬((k:Int)<0):=by omega
 have hkI:(k:Int)<ps.length:=by omega
 have ao8:=j1.lt Ad
 have Ci:∀(x:B),Clean ⟨jf (jf m.bm (b+3) (some x)) pid (some (.arr 2 ((a9t ps k e.v).map pn))),jf m.ver (b+3) (m.ver (b+3)+1),m.mp⟩ (Hj m u pid (m.ver pid) (a9t ps k e.v) cN):=by
  intro x
  refine rp (b:=b) (fun i hi=>?_) (fun i hi=>?_)
  ·simp only[Hj,Mem.put,al,a9t,Fx]
   refine⟨?_,?_,trivial⟩<;>(repeat' split)<;>first|rfl|omega|(subst_vars;first|rfl|omega|(rw[x7];simp))
  ·simp only[Hj,Mem.put,al]
   rw[if_neg (by omega),if_neg (by omega)]
   exact⟨.inl (j1 i hi).1,(j1 i hi).2⟩
 rcases oN with ⟨e2,rfl⟩|⟨rfl,xp⟩
 ·simp only[qf,enter,l9,go_sem,aa,ab,ag,reduceCtorEq,ax,x7,oe]
  refine iv (ds:=[.agg [.dt 2 (ps.map pn),.bd],.str e.n]) ?_ (r4 _ _ (Wk.refl _) (by rw[dg.1 e2];exact Wk.bd)) rfl ?_
  ·simp only[go_sem,iz,mc,Ad,hp3]
  ·simp only[go_sem,aa,ab,ag,reduceCtorEq,ax,PS.mem,ae,nh,qa,Ad,hp3,aj,toNat_cast,hg,hk0,x7,oe,hkI,L1]
   have h9:=Ci
   try simp only[ae]at h9
   exact h9 _
 ·simp only[qf,enter,l9,go_sem,aa,ab,ag,reduceCtorEq,ax,x7,oe]
  refine iv (ds:=[.agg [.dt 2 (ps.map pn),.dt 5 (zs.map Ag)],.str e.n]) ?_ (r4 _ _ (Wk.refl _) (Gi zs)) rfl ?_
  ·simp only[go_sem,iz,mc,Ad,hp3,xp,hn3 xp]
  ·simp only[go_sem,aa,ab,ag,reduceCtorEq,ax,PS.mem,ae,nh,qa,Ad,hp3,aj,toNat_cast,hg,hk0,x7,oe,hkI,L1]
   have h9:=Ci
   try simp only[ae]at h9
   exact h9 _
end
section
variable{P:Program}(A:Pr4 P)
theorem ass(e:Edt)(ps:List Pm)(zs:List WN)(hl:ps.length≤2^20)(hI:yk ⟨ps,zs.map WN.n⟩ e.n= -1):KOk P A.pg e ps (ps++[⟨e.n,e.v⟩]) zs zs 0:=by
 intro m u lo b hT hu hlo j1;obtain⟨pid,nid,cP,cN,hp,hn,kg,x7,oP,oN⟩:=hT
 have r4:=fun(x y:D) (hx:Wk x (ix ps)) (hy:Wk y (jj (zs.map WN.n)))=>Dm A.toPr e.n (show ps.length≤2^50 by omega) hx hy
 rw[hI]at r4
 have oe:u≠b+3:=by omega
 have hp3:∀{x},m.bm pid=some x→pid≠b+3:=fun h=>by have:=j1.lt h;omega
 have hn3:∀{x},m.bm nid=some x→nid≠b+3:=fun h=>by have:=j1.lt h;omega
 have aoj:(b+23=b+3)=False:=by simp
 have awn:=j1 (b+23) (by omega)
 have aeo:u≠b+23:=by omega
 rcases oP with ⟨e1,rfl⟩|⟨rfl,Ad⟩
 ·have e0:ps=[]:=dg.1 e1
  subst e0
  have oN2:∃asa,lo≤asa∧b+23≠asa∧Own m asa 5 (zs.map Ag) cN:=by
   rcases oN with ⟨e2,rfl⟩|⟨rfl,xp⟩
   ·exact⟨b+24,by omega,by omega,.inl ⟨e2,rfl⟩⟩
   ·exact⟨nid,hn,by have:=j1.lt xp;omega,.inr ⟨rfl,xp⟩⟩
  obtain⟨asa,hn2,Yy,oN2⟩:=oN2
  refine ah2 A.mo A.Hw (by simp) (pid:=b+23) (w:=m.ver (b+23)+1) hu hlo j1 (by omega) hn2 Yy oN2 (by omega) (by omega) fun c=>?_
  show jd P (mh A.gq) (u0 m [.tmp 4] _ _) _
  have Ci:∀(x:B),Clean ⟨jf (jf (jf m.bm (b+3) (some x)) (b+23) (some (.arr 2 [[.str e.n,.int .i64 e.v]]))) u (some (.loc [.ref (b+23) (m.ver (b+23)+1) 1,cN])),jf (jf m.ver (b+3) (m.ver (b+3)+1)) (b+23) (m.ver (b+23)+1),m.mp⟩ (Hj m u (b+23) (m.ver (b+23)+1) ([]++[⟨e.n,e.v⟩]) cN):=by
   intro x
   refine rp (b:=b) (fun i hi=>?_) (fun i hi=>?_)
   ·simp only[Hj,Mem.put,al]
    refine⟨?_,?_,trivial⟩<;>(repeat' split)<;>first|rfl|omega|(subst_vars;first|rfl|omega|simp)
   ·simp only[Hj,Mem.put,al]
    by_cases h23:i=b+23
    ·subst h23
     simp only[if_neg aeo.symm,if_true]
     exact⟨.inr ⟨by simp[pn],by simp⟩,awn.2⟩
    ·rw[if_neg (by omega),if_neg h23]
     exact⟨.inl (j1 i hi).1,(j1 i hi).2⟩
  have w23:(1:Nat)*24≤2^47:=by omega
  rcases oN with ⟨e2,rfl⟩|⟨rfl,xp⟩
  ·simp only[mh,enter,l9,go_sem,aa,ab,ag,reduceCtorEq,ax,x7,oe]
   refine iv (ds:=[.agg [.bd,.bd],.str e.n]) ?_ (r4 _ _ Wk.bd (by rw[dg.1 e2];exact Wk.bd)) rfl ?_
   ·simp only[go_sem]
   ·simp only[go_sem,aa,df,bc,de,ab,ag,reduceCtorEq,ca,ax,PS.mem,beq_self_eq_true,nh,qa,x7,oe,aoj,aeo,Ex,ov,w23,Mt]
    exact Ci _
  ·simp only[mh,enter,l9,go_sem,aa,ab,ag,reduceCtorEq,ax,x7,oe]
   refine iv (ds:=[.agg [.bd,.dt 5 (zs.map Ag)],.str e.n]) ?_ (r4 _ _ Wk.bd (Gi zs)) rfl ?_
   ·simp only[go_sem,iz,mc,xp,hn3 xp]
   ·have iy:=j1.lt xp
    have aEa:nid≠b+23:=by omega
    simp only[go_sem,aa,df,bc,de,ab,ag,reduceCtorEq,ca,ax,PS.mem,beq_self_eq_true,ae,nh,qa,x7,oe,aoj,aeo,Ex,ov,w23,Mt];have h9:=Ci;simp only[ae]at h9;exact h9 _
 ·have iy:=j1.lt Ad
  have hup:u≠pid:=by omega
  refine ah2 A.mo A.Hw (by simp) (pid:=pid) (w:=m.ver pid) hu hlo j1 hp hn kg oN (by omega) (by omega) fun c=>?_
  show jd P (mh A.gq) (u0 m [.tmp 4] _ _) _
  have Ci:∀(x:B),Clean ⟨jf (jf (jf m.bm (b+3) (some x)) pid (some (.arr 2 (ps.map pn++[[.str e.n,.int .i64 e.v]])))) u (some (.loc [.ref pid (m.ver pid) (ps.length+1),cN])),jf m.ver (b+3) (m.ver (b+3)+1),m.mp⟩ (Hj m u pid (m.ver pid) (ps++[⟨e.n,e.v⟩]) cN):=by
   intro x
   refine rp (b:=b) (fun i hi=>?_) (fun i hi=>?_)
   ·simp only[Hj,Mem.put,al,cb,bq,dh,fb,cu,ez,pn]
    refine⟨?_,?_,trivial⟩<;>(repeat' split)<;>first|rfl|omega|(subst_vars;first|rfl|omega|simp)
   ·simp only[Hj,Mem.put,al]
    rw[if_neg (by omega),if_neg (by omega)]
    exact⟨.inl (j1 i hi).1,(j1 i hi).2⟩
  have w23:(ps.length+1)*24≤2^47:=by omega
  rcases oN with ⟨e2,rfl⟩|⟨rfl,xp⟩
  ·simp only[mh,enter,l9,go_sem,aa,ab,ag,reduceCtorEq,ax,x7,oe]
   refine iv (ds:=[.agg [.dt 2 (ps.map pn),.bd],.str e.n]) ?_ (r4 _ _ (Wk.refl _) (by rw[dg.1 e2];exact Wk.bd)) rfl ?_
   ·simp only[go_sem,iz,mc,Ad,hp3 Ad]
   ·simp only[go_sem,aa,df,bc,ab,ag,reduceCtorEq,ca,ax,PS.mem,beq_self_eq_true,ae,nh,qa,x7,oe,hup,Ad,hp3 Ad,Ex,ov,w23,cb]
    exact Ci _
  ·simp only[mh,enter,l9,go_sem,aa,ab,ag,reduceCtorEq,ax,x7,oe]
   refine iv (ds:=[.agg [.dt 2 (ps.map pn),.dt 5 (zs.map Ag)],.str e.n]) ?_ (r4 _ _ (Wk.refl _) (Gi zs)) rfl ?_
   ·simp only[go_sem,iz,mc,Ad,hp3 Ad,xp,hn3 xp]
   ·simp only[go_sem,aa,df,bc,ab,ag,reduceCtorEq,ca,ax,PS.mem,beq_self_eq_true,ae,nh,qa,x7,oe,hup,Ad,hp3 Ad,Ex,ov,w23,cb]
    have h9:=Ci;simp only[ae]at h9;exact h9 _
theorem asp(e:Edt)(ps:List Pm)(zs:List WN)(hl:ps.length≤2^20){k:Nat}(hk:k<ps.length)(hI:yk ⟨ps,zs.map WN.n⟩ e.n=(k:Int)):KOk P A.pe e ps (ps.eraseIdx k) zs zs 0:=by
 intro m u lo b hT hu hlo j1;obtain⟨pid,nid,cP,cN,hp,hn,kg,x7,oP,oN⟩:=hT
 have r4:=fun(x y:D) (hx:Wk x (ix ps)) (hy:Wk y (jj (zs.map WN.n)))=>Dm A.toPr e.n (show ps.length≤2^50 by omega) hx hy
 rw[hI]at r4
 have oe:u≠b+3:=by omega
 have hp3:∀{x},m.bm pid=some x→pid≠b+3:=fun h=>by have:=j1.lt h;omega
 have hn3:∀{x},m.bm nid=some x→nid≠b+3:=fun h=>by have:=j1.lt h;omega
 have ao7:ps.map pn≠[]:=fun h=>by have:=congrArg Cq h;simp at this;subst this;simp at hk
 obtain⟨rfl,Ad⟩:=oP.ref ao7;have iy:=j1.lt Ad
 have hup:u≠pid:=by omega
 refine ah2 A.mo A.Mo (by simp) (pid:=pid) (w:=m.ver pid+1) hu hlo j1 hp hn kg oN (by omega) (by omega) fun c=>?_
 show jd P (qe A.gq A.lg) (u0 m [.tmp 4] _ _) _
 have ab9:(ps.map pn).eraseIdx k=(ps.eraseIdx k).map pn:=by rw[oz,oz,fb,J7,av0]
 have a1b:(ps.eraseIdx k).length=ps.length-1:=axp hk
 have Ci:∀(x:B),Clean ⟨jf (jf (jf m.bm (b+3) (some x)) pid (some (.arr 2 ((ps.eraseIdx k).map pn)))) u (some (.loc [.ref pid (m.ver pid+1) (ps.length-1),cN])),jf (jf m.ver (b+3) (m.ver (b+3)+1)) pid (m.ver pid+1),m.mp⟩ (Hj m u pid (m.ver pid+1) (ps.eraseIdx k) cN):=by
  intro x
  refine rp (b:=b) (fun i hi=>?_) (fun i hi=>?_)
  ·simp only[Hj,Mem.put,al,a1b]
   refine⟨?_,?_,trivial⟩<;>(repeat' split)<;>first|rfl|omega|(subst_vars;first|rfl|omega|simp)
  ·simp only[Hj,Mem.put,al]
   rw[if_neg (by omega),if_neg (by omega)]
   exact⟨.inl (j1 i hi).1,(j1 i hi).2⟩
 have hk0:¬((k:Int)<0):=by omega
 have wk1:=br ((k:Int)+1) (by omega) (by omega)
 have aoh:∀mm:Mem,mm.bm pid=some (.arr 2 (ps.map pn))→mm.ver pid=m.ver pid→nj P A.lg mm [.ref pid (m.ver pid) (ps.map pn).length,.d (.int .i64 k),.d (.int .i64 ((k:Int)+1))] (mm.put pid (m.ver pid+1) (.arr 2 ((ps.map pn).eraseIdx k))) (.ref pid (m.ver pid+1) ((ps.map pn).length-1)):=
  fun mm h1 h2=>a2b A.mo (sz:=2) (by_:=24) (z:=[.str ⟨#[]⟩,.int .i64 0]) A.Jq (by simpa using hk) rfl rfl (by simp[pn,D.one]) (by simp only[ae];omega) h1 h2 (b+100)
 rcases oN with ⟨e2,rfl⟩|⟨rfl,xp⟩
 ·simp only[qe,enter,l9,go_sem,aa,ab,ag,reduceCtorEq,ax,x7,oe]
  refine iv (ds:=[.agg [.dt 2 (ps.map pn),.bd],.str e.n]) ?_ (r4 _ _ (Wk.refl _) (by rw[dg.1 e2];exact Wk.bd)) rfl ?_
  ·simp only[go_sem,iz,mc,Ad,hp3 Ad]
  ·simp only[go_sem,aa,ab,ag,reduceCtorEq,ax,x7,oe,hk0,wk1]
   refine iu (aoh _ (by simp only[PS.mem,al,hp3 Ad,if_false,Ad]) (by simp only[PS.mem,al,hp3 Ad,if_false])) ?_
   simp only[go_sem,aa,ab,ag,ax,PS.gl,PS.mem,Mem.put,beq_self_eq_true,ae,nh,qa,x7,oe,hup,Ad,hp3 Ad,ab9,a1b];exact Ci _
 ·simp only[qe,enter,l9,go_sem,aa,ab,ag,reduceCtorEq,ax,x7,oe]
  refine iv (ds:=[.agg [.dt 2 (ps.map pn),.dt 5 (zs.map Ag)],.str e.n]) ?_ (r4 _ _ (Wk.refl _) (Gi zs)) rfl ?_
  ·simp only[go_sem,iz,mc,Ad,hp3 Ad,xp,hn3 xp]
  ·simp only[go_sem,aa,ab,ag,reduceCtorEq,ax,x7,oe,hk0,wk1]
   refine iu (aoh _ (by simp only[PS.mem,al,hp3 Ad,if_false,Ad]) (by simp only[PS.mem,al,hp3 Ad,if_false])) ?_
   simp only[go_sem,aa,ab,ag,ax,PS.gl,PS.mem,Mem.put,beq_self_eq_true,ae,nh,qa,x7,oe,hup,Ad,hp3 Ad,ab9,a1b];have h9:=Ci;simp only[ae]at h9;exact h9 _
end
theorem ah3{P:Program}(hm:P.follows .mixedOrders=true){f:Nat}{an:Ann}{rc:cn}{nt:Nat}(hf:dj P f an=some (rc,[.tmp 4],nt))(hnt:2≤nt){e:Edt}{code:Int}{ps:List Pm}{zs':List WN}{m:Mem}{u lo b pid nid w:Nat}{cP:C}
  (hu:u<lo)(hlo:lo≤b)(j1:qb m b)(hp:lo≤pid)(hn:lo≤nid)(kg:pid≠nid)(oP:Own m pid 2 (ps.map pn) cP)(xp:nid<b+64)(hw:m.ver nid≤w)
  (h:∀c,jd P rc (u0 m [.tmp 4] (Hi m u nid w zs' cP) (.d (.int .i64 code))) (enter m [.dv u (m.ver u) 0,.d (.agg (l9 e))] b c)):
  ∃m',nj P f m [.dv u (m.ver u) 0,.d (.agg (l9 e))] m' (.d (.int .i64 code))∧O3 m' u lo ps zs'∧(∀j,j<lo→j≠u→m'.bm j=m.bm j∧m'.ver j=m.ver j)∧m'.ver u=m.ver u∧m'.mp=m.mp∧qb m' (b+64):=by
 have hup:u≠pid:=by omega
 have hun:u≠nid:=by omega
 have oP':Own (Hi m u nid w zs' cP) pid 2 (ps.map pn) cP:=oP.mono (by simp only[Hi,Mem.put,al];rw[if_neg (by omega),if_neg (by omega)]) (by simp only[Hi,Mem.put,al];rw[if_neg (by omega),if_neg (by omega)])
 have hv:∀i,m.ver i≤(Hi m u nid w zs' cP).ver i:=fun i=>by
  simp only[Hi,Mem.put,al]
  (repeat' split)<;>first|omega|(subst_vars;omega)
 refine⟨Hi m u nid w zs' cP,jt hm hf hnt b h hv (fun i x hx=>?_) (fun i es hi=> .inl hi) trivial,⟨pid,nid,cP,.ref nid w zs'.length,hp,hn,kg,by simp only[Hi,Mem.put,bh],oP',.inr ⟨?_,?_⟩⟩,fun j h1 h2=>⟨?_,?_⟩,by simp only[Hi,Mem.put,bh],rfl,fun i hi=>⟨?_,(j1 i (by omega)).2⟩⟩
 ·simp only[Hi,Mem.put,al]at hx
  split at hx
  ·injection hx with hx
   subst hx
   refine .inr fun c hc=>?_
   simp only[dn,jg,or_false]at hc;rcases hc with rfl|rfl
   ·exact oP'.wf
   ·show w≤(Hi m u nid w zs' _).ver nid
    simp only[Hi,Mem.put,al]
    rw[if_neg (by omega),if_pos trivial]
    exact ar _
  ·split at hx
   ·injection hx with hx;subst hx;exact .inr trivial
   ·exact .inl hx
 ·simp only[Hi,Mem.put,al,ae]
  rw[if_neg (by omega),if_pos trivial]
 ·simp only[Hi,Mem.put,al]
  rw[if_neg (by omega),if_pos trivial]
 ·simp only[Hi,Mem.put,al]
  rw[if_neg h2,if_neg (by omega)]
 ·simp only[Hi,Mem.put,al]
  rw[if_neg h2,if_neg (by omega)]
 ·simp only[Hi,Mem.put,al]
  rw[if_neg (by omega),if_neg (by omega)]
  exact(j1 i (by omega)).1
def Sk(n:Nd):Prop:=n.f.vs.length≤2^30∧n.f.ls.length≤2^30∧(∀q∈n.f.ls,q.length≤2^30)∧n.ins.length≤2^30
theorem atx{zs:List WN}{k:Nat}(h:k<zs.length):(zs.map Ag)[k]? =some [.str zs[k].n.n,.int .i64 zs[k].n.f.k,zs[k].x,jv zs[k].n.f.ls,zs[k].y]:=by
 simp[h,Ag]
section
variable{P:Program}(A:Pr4 P)
theorem asn(e:Edt)(ps:List Pm)(zs:List WN)(hl:zs.length≤2^20)(hm:Sk e.nd){k:Nat}(hk:k<zs.length)(hI:Af ⟨ps,zs.map WN.n⟩ e.nd.n=(k:Int)):KOk P A.pb e ps ps zs (zs.set k (WN.of e.nd)) 0:=by
 intro m u lo b hT hu hlo j1;obtain⟨pid,nid,cP,cN,hp,hn,kg,x7,oP,oN⟩:=hT
 have r4:=fun(x y:D) (hx:Wk x (ix ps)) (hy:Wk y (jj (zs.map WN.n)))=>Gv A.toPr e.nd.n (show(zs.map WN.n).length≤2^50 by simp only[ae];omega) hx hy
 rw[hI]at r4
 have oe:u≠b+3:=by omega
 have hp3:∀{x},m.bm pid=some x→pid≠b+3:=fun h=>by have:=j1.lt h;omega
 have hn3:∀{x},m.bm nid=some x→nid≠b+3:=fun h=>by have:=j1.lt h;omega
 have V8:=a6u A.toPr e.nd (by have:=hm.1;omega) hm.2.1 (fun l hl=>by have:=hm.2.2.1 l hl;omega) (by have:=hm.2.2.2;omega)
 simp only[xe,ua,jv,ma]at V8
 have awj:zs.map Ag≠[]:=fun h=>by have:=congrArg Cq h;simp at this;subst this;simp at hk
 obtain⟨rfl,xp⟩:=oN.ref awj;have iy:=j1.lt xp
 have hun:u≠nid:=by omega
 refine ah3 A.mo A.Hu (by simp) (nid:=nid) (w:=m.ver nid) hu hlo j1 hp hn kg oP (by omega) (by omega) fun c=>?_
 show jd P (p9 A.ja A.ft) (u0 m [.tmp 4] _ _) _
 have L1:(zs.map Ag).set k [.str e.nd.n,.int .i64 e.nd.f.k,.dt 3 (e.nd.f.vs.map Cn),.dt 1 (e.nd.f.ls.map fun l=>[se l]),.dt 1 (e.nd.ins.map sv)]=(zs.set k (WN.of e.nd)).map Ag:=by
  rw[←Gu];rfl
 have hg:=atx hk
 have hk0:(k:Int)≥0:=by omega
 have hkI:(k:Int)<zs.length:=by omega
 have Ci:∀(x:B),Clean ⟨jf (jf m.bm (b+3) (some x)) nid (some (.arr 5 ((zs.set k (WN.of e.nd)).map Ag))),jf m.ver (b+3) (m.ver (b+3)+1),m.mp⟩ (Hi m u nid (m.ver nid) (zs.set k (WN.of e.nd)) cP):=by
  intro x
  refine rp (b:=b) (fun i hi=>?_) (fun i hi=>?_)
  ·simp only[Hi,Mem.put,al,Fx]
   refine⟨?_,?_,trivial⟩<;>(repeat' split)<;>first|rfl|omega|(subst_vars;first|rfl|omega|(rw[x7];simp))
  ·simp only[Hi,Mem.put,al]
   rw[if_neg (by omega),if_neg (by omega)]
   exact⟨.inl (j1 i hi).1,(j1 i hi).2⟩
 rcases oP with ⟨e1,rfl⟩|⟨rfl,Ad⟩
 ·simp only[p9,enter,l9,ua,jv,ma,go_sem,aa,ab,ag,reduceCtorEq,ax,x7,oe]
  refine iv (ds:=[.agg [.bd,.dt 5 (zs.map Ag)],.str e.nd.n]) ?_ (r4 _ _ (by rw[dg.1 e1];exact Wk.bd) (Gi zs)) rfl ?_
  ·simp only[go_sem,iz,mc,xp,hn3 xp]
  ·simp only[go_sem,aa,ab,reduceCtorEq,ax,x7,oe,hk0,ae]
   refine ee V8 ?_;simp only[go_sem,aa,ab,PS.mem,ae,nh,qa,xp,hn3 xp,hk0,hkI,hg,toNat_cast,L1,ae];have h9:=Ci
   try simp only[ae]at h9
   exact h9 _
 ·simp only[p9,enter,l9,ua,jv,ma,go_sem,aa,ab,ag,reduceCtorEq,ax,x7,oe]
  refine iv (ds:=[.agg [.dt 2 (ps.map pn),.dt 5 (zs.map Ag)],.str e.nd.n]) ?_ (r4 _ _ (Wk.refl _) (Gi zs)) rfl ?_
  ·simp only[go_sem,iz,mc,xp,hn3 xp,Ad,hp3 Ad]
  ·simp only[go_sem,aa,ab,reduceCtorEq,ax,x7,oe,hk0,ae]
   refine ee V8 ?_;simp only[go_sem,aa,ab,PS.mem,ae,nh,qa,xp,hn3 xp,hk0,hkI,hg,toNat_cast,L1,ae];have h9:=Ci
   try simp only[ae]at h9
   exact h9 _
theorem aso(e:Edt)(ps:List Pm)(zs:List WN)(hl:zs.length≤2^20)(hm:Sk e.nd)(hI:Af ⟨ps,zs.map WN.n⟩ e.nd.n= -1):KOk P A.pb e ps ps zs (zs++[WN.of e.nd]) 0:=by
 intro m u lo b hT hu hlo j1;obtain⟨pid,nid,cP,cN,hp,hn,kg,x7,oP,oN⟩:=hT
 have r4:=fun(x y:D) (hx:Wk x (ix ps)) (hy:Wk y (jj (zs.map WN.n)))=>Gv A.toPr e.nd.n (show(zs.map WN.n).length≤2^50 by simp only[ae];omega) hx hy
 rw[hI]at r4
 have oe:u≠b+3:=by omega
 have hp3:∀{x},m.bm pid=some x→pid≠b+3:=fun h=>by have:=j1.lt h;omega
 have hn3:∀{x},m.bm nid=some x→nid≠b+3:=fun h=>by have:=j1.lt h;omega
 have V8:=a6u A.toPr e.nd (by have:=hm.1;omega) hm.2.1 (fun l hl=>by have:=hm.2.2.1 l hl;omega) (by have:=hm.2.2.2;omega)
 simp only[xe,ua,jv,ma]at V8
 have aoj:(b+33=b+3)=False:=by simp
 have awn:=j1 (b+33) (by omega)
 have aeo:u≠b+33:=by omega
 have aE9:∀{x},m.bm pid=some x→pid≠b+33:=fun h=>by have:=j1.lt h;omega
 rcases oN with ⟨e2,rfl⟩|⟨rfl,xp⟩
 ·have e0:zs=[]:=dg.1 e2
  subst e0
  have oP2:∃arp,lo≤arp∧arp≠b+33∧Own m arp 2 (ps.map pn) cP:=by
   rcases oP with ⟨e1,rfl⟩|⟨rfl,Ad⟩
   ·exact⟨b+34,by omega,by omega,.inl ⟨e1,rfl⟩⟩
   ·exact⟨pid,hp,by have:=j1.lt Ad;omega,.inr ⟨rfl,Ad⟩⟩
  obtain⟨arp,hp2,Yy,oP2⟩:=oP2
  refine ah3 A.mo A.Hu (by simp) (nid:=b+33) (w:=m.ver (b+33)+1) hu hlo j1 hp2 (by omega) Yy oP2 (by omega) (by omega) fun c=>?_
  show jd P (p9 A.ja A.ft) (u0 m [.tmp 4] _ _) _
  have Ci:∀(x:B),Clean ⟨jf (jf (jf m.bm (b+3) (some x)) (b+33) (some (.arr 5 [[.str e.nd.n,.int .i64 e.nd.f.k,.dt 3 (e.nd.f.vs.map Cn),.dt 1 (e.nd.f.ls.map fun l=>[se l]),.dt 1 (e.nd.ins.map sv)]]))) u (some (.loc [cP,.ref (b+33) (m.ver (b+33)+1) 1])),jf (jf m.ver (b+3) (m.ver (b+3)+1)) (b+33) (m.ver (b+33)+1),m.mp⟩ (Hi m u (b+33) (m.ver (b+33)+1) ([]++[WN.of e.nd]) cP):=by
   intro x
   refine rp (b:=b) (fun i hi=>?_) (fun i hi=>?_)
   ·simp only[Hi,Mem.put,al]
    refine⟨?_,?_,trivial⟩<;>(repeat' split)<;>first|rfl|omega|(subst_vars;first|rfl|omega|simp)
   ·simp only[Hi,Mem.put,al]
    by_cases h23:i=b+33
    ·subst h23
     simp only[if_neg aeo.symm,if_true]
     exact⟨.inr ⟨rfl,by simp⟩,awn.2⟩
    ·rw[if_neg (by omega),if_neg h23]
     exact⟨.inl (j1 i hi).1,(j1 i hi).2⟩
  have w23:(1:Nat)*96≤2^47:=by omega
  rcases oP with ⟨e1,rfl⟩|⟨rfl,Ad⟩
  ·simp only[p9,enter,l9,ua,jv,ma,go_sem,aa,ab,ag,reduceCtorEq,ax,x7,oe]
   refine iv (ds:=[.agg [.bd,.bd],.str e.nd.n]) ?_ (r4 _ _ (by rw[dg.1 e1];exact Wk.bd) Wk.bd) rfl ?_
   ·simp only[go_sem]
   ·simp only[go_sem,aa,df,bc,ab,reduceCtorEq,ax,x7,oe]
    refine ee V8 ?_;simp only[go_sem,aa,bc,de,ab,reduceCtorEq,ca,ax,PS.mem,beq_self_eq_true,nh,qa,x7,oe,Ex,ov,Mt,aoj,aeo,w23];have h9:=Ci
    try simp only[ae]at h9
    exact h9 _
  ·simp only[p9,enter,l9,ua,jv,ma,go_sem,aa,ab,ag,reduceCtorEq,ax,x7,oe]
   refine iv (ds:=[.agg [.dt 2 (ps.map pn),.bd],.str e.nd.n]) ?_ (r4 _ _ (Wk.refl _) Wk.bd) rfl ?_
   ·simp only[go_sem,iz,mc,Ad,hp3 Ad]
   ·simp only[go_sem,aa,df,bc,ab,reduceCtorEq,ax,x7,oe]
    refine ee V8 ?_;simp only[go_sem,aa,bc,de,ab,reduceCtorEq,ca,ax,PS.mem,beq_self_eq_true,ae,nh,qa,x7,oe,Ex,ov,Mt,aoj,aeo,w23];have h9:=Ci
    try simp only[ae]at h9
    exact h9 _
 ·have iy:=j1.lt xp
  have hun:u≠nid:=by omega
  refine ah3 A.mo A.Hu (by simp) (nid:=nid) (w:=m.ver nid) hu hlo j1 hp hn kg oP (by omega) (by omega) fun c=>?_
  show jd P (p9 A.ja A.ft) (u0 m [.tmp 4] _ _) _
  have Ci:∀(x:B),Clean ⟨jf (jf (jf m.bm (b+3) (some x)) nid (some (.arr 5 (zs.map Ag++[[.str e.nd.n,.int .i64 e.nd.f.k,.dt 3 (e.nd.f.vs.map Cn),.dt 1 (e.nd.f.ls.map fun l=>[se l]),.dt 1 (e.nd.ins.map sv)]])))) u (some (.loc [cP,.ref nid (m.ver nid) (zs.length+1)])),jf m.ver (b+3) (m.ver (b+3)+1),m.mp⟩ (Hi m u nid (m.ver nid) (zs++[WN.of e.nd]) cP):=by
   intro x
   refine rp (b:=b) (fun i hi=>?_) (fun i hi=>?_)
   ·simp only[Hi,Mem.put,al,cb,bq,dh,fb,cu,ez]
    refine⟨?_,?_,trivial⟩<;>(repeat' split)<;>first|rfl|omega|(subst_vars;first|rfl|omega|simp)
   ·simp only[Hi,Mem.put,al]
    rw[if_neg (by omega),if_neg (by omega)]
    exact⟨.inl (j1 i hi).1,(j1 i hi).2⟩
  have w23:(zs.length+1)*96≤2^47:=by omega
  rcases oP with ⟨e1,rfl⟩|⟨rfl,Ad⟩
  ·simp only[p9,enter,l9,ua,jv,ma,go_sem,aa,ab,ag,reduceCtorEq,ax,x7,oe]
   refine iv (ds:=[.agg [.bd,.dt 5 (zs.map Ag)],.str e.nd.n]) ?_ (r4 _ _ (by rw[dg.1 e1];exact Wk.bd) (Gi zs)) rfl ?_
   ·simp only[go_sem,iz,mc,xp,hn3 xp]
   ·simp only[go_sem,aa,df,bc,ab,reduceCtorEq,ax,x7,oe]
    refine ee V8 ?_;simp only[go_sem,aa,bc,ab,ca,ax,PS.mem,beq_self_eq_true,ae,nh,qa,x7,oe,Ex,ov,cb,Mt,xp,hn3 xp,hun,w23];have h9:=Ci
    try simp only[ae]at h9
    exact h9 _
  ·simp only[p9,enter,l9,ua,jv,ma,go_sem,aa,ab,ag,reduceCtorEq,ax,x7,oe]
   refine iv (ds:=[.agg [.dt 2 (ps.map pn),.dt 5 (zs.map Ag)],.str e.nd.n]) ?_ (r4 _ _ (Wk.refl _) (Gi zs)) rfl ?_
   ·simp only[go_sem,iz,mc,xp,hn3 xp,Ad,hp3 Ad]
   ·simp only[go_sem,aa,df,bc,ab,reduceCtorEq,ax,x7,oe]
    refine ee V8 ?_;simp only[go_sem,aa,bc,ab,ca,ax,PS.mem,beq_self_eq_true,ae,nh,qa,x7,oe,Ex,ov,cb,Mt,xp,hn3 xp,hun,w23];have h9:=Ci
    try simp only[ae]at h9
    exact h9 _
theorem asl(e:Edt)(ps:List Pm)(zs:List WN)(hl:zs.length≤2^20){k:Nat}(hk:k<zs.length)(hI:Af ⟨ps,zs.map WN.n⟩ e.n=(k:Int)):KOk P A.pa e ps ps zs (zs.eraseIdx k) 0:=by
 intro m u lo b hT hu hlo j1;obtain⟨pid,nid,cP,cN,hp,hn,kg,x7,oP,oN⟩:=hT
 have r4:=fun(x y:D) (hx:Wk x (ix ps)) (hy:Wk y (jj (zs.map WN.n)))=>Gv A.toPr e.n (show(zs.map WN.n).length≤2^50 by simp only[ae];omega) hx hy
 rw[hI]at r4
 have oe:u≠b+3:=by omega
 have hp3:∀{x},m.bm pid=some x→pid≠b+3:=fun h=>by have:=j1.lt h;omega
 have hn3:∀{x},m.bm nid=some x→nid≠b+3:=fun h=>by have:=j1.lt h;omega
 have awj:zs.map Ag≠[]:=fun h=>by have:=congrArg Cq h;simp at this;subst this;simp at hk
 obtain⟨rfl,xp⟩:=oN.ref awj;have iy:=j1.lt xp
 have hun:u≠nid:=by omega
 refine ah3 A.mo A.Mn (by simp) (nid:=nid) (w:=m.ver nid+1) hu hlo j1 hp hn kg oP (by omega) (by omega) fun c=>?_
 show jd P (qd A.ja A.lu) (u0 m [.tmp 4] _ _) _
 have ab9:(zs.map Ag).eraseIdx k=(zs.eraseIdx k).map Ag:=by rw[oz,oz,fb,J7,av0]
 have a1b:(zs.eraseIdx k).length=zs.length-1:=axp hk
 have Ci:∀(x:B),Clean ⟨jf (jf (jf m.bm (b+3) (some x)) nid (some (.arr 5 ((zs.eraseIdx k).map Ag)))) u (some (.loc [cP,.ref nid (m.ver nid+1) (zs.length-1)])),jf (jf m.ver (b+3) (m.ver (b+3)+1)) nid (m.ver nid+1),m.mp⟩ (Hi m u nid (m.ver nid+1) (zs.eraseIdx k) cP):=by
  intro x
  refine rp (b:=b) (fun i hi=>?_) (fun i hi=>?_)
  ·simp only[Hi,Mem.put,al,a1b]
   refine⟨?_,?_,trivial⟩<;>(repeat' split)<;>first|rfl|omega|(subst_vars;first|rfl|omega|simp)
  ·simp only[Hi,Mem.put,al]
   rw[if_neg (by omega),if_neg (by omega)]
   exact⟨.inl (j1 i hi).1,(j1 i hi).2⟩
 have hk0:¬((k:Int)<0):=by omega
 have wk1:=br ((k:Int)+1) (by omega) (by omega)
 have Ac:∀e∈zs.map Ag,e.all D.one=true:=fun e he=>by
  obtain⟨z,_,rfl⟩:=jc.1 he;simp only[Ag,Sl,aEw,z.ox,z.oy,F9];rfl
 have aoh:∀mm:Mem,mm.bm nid=some (.arr 5 (zs.map Ag))→mm.ver nid=m.ver nid→nj P A.lu mm [.ref nid (m.ver nid) (zs.map Ag).length,.d (.int .i64 k),.d (.int .i64 ((k:Int)+1))] (mm.put nid (m.ver nid+1) (.arr 5 ((zs.map Ag).eraseIdx k))) (.ref nid (m.ver nid+1) ((zs.map Ag).length-1)):=
  fun mm h1 h2=>a2b A.mo (sz:=5) (by_:=96) (z:=[.str ⟨#[]⟩,.int .i64 0,.bd,.bd,.bd]) A.Kj (by simpa using hk) rfl rfl Ac (by simp only[ae];omega) h1 h2 (b+100)
 rcases oP with ⟨e1,rfl⟩|⟨rfl,Ad⟩
 ·simp only[qd,enter,l9,ua,jv,ma,go_sem,aa,ab,ag,reduceCtorEq,ax,x7,oe]
  refine iv (ds:=[.agg [.bd,.dt 5 (zs.map Ag)],.str e.n]) ?_ (r4 _ _ (by rw[dg.1 e1];exact Wk.bd) (Gi zs)) rfl ?_
  ·simp only[go_sem,iz,mc,xp,hn3 xp]
  ·simp only[go_sem,aa,ab,reduceCtorEq,ax,x7,oe,hk0,wk1]
   refine iu (aoh _ (by simp only[PS.mem,al,hn3 xp,if_false,xp]) (by simp only[PS.mem,al,hn3 xp,if_false])) ?_
   simp only[go_sem,aa,ab,ax,PS.gl,PS.mem,Mem.put,beq_self_eq_true,ae,nh,qa,ab9,a1b,xp,hn3 xp,hun,x7,oe];have h9:=Ci
   try simp only[ae]at h9
   exact h9 _
 ·simp only[qd,enter,l9,ua,jv,ma,go_sem,aa,ab,ag,reduceCtorEq,ax,x7,oe]
  refine iv (ds:=[.agg [.dt 2 (ps.map pn),.dt 5 (zs.map Ag)],.str e.n]) ?_ (r4 _ _ (Wk.refl _) (Gi zs)) rfl ?_
  ·simp only[go_sem,iz,mc,xp,hn3 xp,Ad,hp3 Ad]
  ·simp only[go_sem,aa,ab,reduceCtorEq,ax,x7,oe,hk0,wk1]
   refine iu (aoh _ (by simp only[PS.mem,al,hn3 xp,if_false,xp]) (by simp only[PS.mem,al,hn3 xp,if_false])) ?_
   simp only[go_sem,aa,ab,ax,PS.gl,PS.mem,Mem.put,beq_self_eq_true,ae,nh,qa,ab9,a1b,xp,hn3 xp,hun,x7,oe];have h9:=Ci
   try simp only[ae]at h9
   exact h9 _
end
theorem Uw{α β:Type}(f:α→Option β)(g:α→β)(l:List α)(h:∀x∈l,f x=some (g x)):Nt (l.map f)=some (l.map g):=by
 induction l with
 |nil=>rfl
 |cons x r ih=>
  simp only[cu,Nt,h x (by simp),ih fun y hy=>h y (by simp[hy])]
theorem afg(s:PS)(n:Nat)(x:D):deep s n (.d x)=some x:=by cases n<;>rfl
theorem ars(s:PS)(n:Nat)(e:List D):Nt ((e.map C.d).map (deep s n))=some e:=by
 rw[aEt]
 have:=Uw (deep s n∘C.d) id e fun x _=>afg s n x
 rwa[aGh]at this
theorem Own.data{s:PS}{id sz:Nat}{els:List (List D)}{c:C}(h:Own s.mem id sz els c):∃x,Wk x (.dt sz els)∧x.one=true∧(∀n,deep s (n+1) c=some x)∧mc s c=some x∧(∀ids,id∈ids→C.rb s ids c= .d x):=by
 rcases h with ⟨rfl,rfl⟩|⟨rfl,hb⟩
 ·exact⟨.bd,Wk.bd,rfl,fun n=>rfl,rfl,fun ids _=>rfl⟩
 ·have ow:s.bm id=some (.arr sz els):=hb
  have e1:s.els id (s.ver id)=some (sz,els):=by unfold PS.els;rw[if_pos rfl,ow]
  have e2:s.elc id (s.ver id)=some (sz,els.map (·.map .d)):=by unfold PS.elc;rw[if_pos rfl,ow]
  refine⟨.dt sz els,Wk.refl _,rfl,fun n=>?_,?_,fun ids hi=>?_⟩
  ·show deep s (n+1) (.ref id (s.ver id) els.length)=_
   have:=Uw (fun e:List C=>Nt (e.map (deep s n))) (fun e=>e.filterMap fun| .d x=>some x|_=>none) (els.map (·.map C.d)) (fun e he=>by
    obtain⟨d,_,rfl⟩:=jc.1 he;rw[ars]
    congr 1
    rw[List.filterMap_map]
    exact(aF7).symm)
   have e3:(els.map (·.map C.d)).map (fun e=>e.filterMap fun| .d x=>some x|_=>none)=els:=by
    rw[aEt]
    refine(Mv fun d _=>?_).trans (aGh els)
    show((d.map C.d).filterMap _)=d;rw[List.filterMap_map];exact aF7
   rw[e3]at this;simp only[deep,e2,ae,if_true,this,gz]
  ·show mc s (.ref id (s.ver id) els.length)=_
   simp only[mc,e1,if_true]
  ·show C.rb s ids (.ref id (s.ver id) els.length)=_
   simp only[C.rb,hi,if_true,e1]
theorem M5.data{s:PS}{b:Nat}{n:Nd}{e:List C}(h:M5 s.mem b n e):∃z:WN,z.n=n∧(∀k,Nt (e.map (deep s (k+1)))=some (Ag z))∧∀ids,b+45∈ids→b+35∈ids→e.map (C.rb s ids)=(Ag z).map .d:=by
 obtain⟨cV,cI,rfl,h1,h2⟩:=h;obtain⟨x,x1,x2,x3,x4,x5⟩:=h1.data;obtain⟨y,y1,y2,y3,y4,y5⟩:=h2.data
 refine⟨⟨n,x,y,x1,y1,x2,y2⟩,rfl,fun k=>?_,fun ids i1 i2=>?_⟩
 ·simp only[cu,ez,afg,x3,y3,Nt,Ag]
 ·simp only[cu,ez,x5 ids i1,y5 ids i2,Ag]
  rfl
theorem aay{β:Type}{p:Nat→β→Prop}(n:Nat)(h:∀k,k<n→∃z,p k z):∃l:List β,l.length=n∧∀k (hk:k<l.length),p k l[k]:=by
 induction n with
 |zero=>exact⟨[],rfl,fun k hk=>absurd hk (by simp)⟩
 |succ n ih=>
  obtain⟨l,hl,h2⟩:=ih fun k hk=>h k (by omega)
  obtain⟨z,hz⟩:=h n (by omega)
  refine⟨l++[z],by simp[hl],fun k hk=>?_⟩
  simp only[cb,bq,dh]at hk;rcases a00 k l.length with h'|h'
  ·rw[List.getElem_append_left h'];exact h2 k h'
  ·have:k=l.length:=by omega
   subst this
   rw[List.getElem_append_right (by omega)]
   simp only[Ms,List.getElem_cons_zero];rw[hl];exact hz
def Bw(b n:Nat):List Nat:=(cq n).flatMap fun k=>[b+64+64*k+45,b+64+64*k+35]
theorem Rv{b n i:Nat}:i∈Bw b n↔∃k,k<n∧(i=b+64+64*k+45∨i=b+64+64*k+35):=by
 unfold Bw;rw[M9];constructor
 ·rintro⟨k,hk,h⟩
  simp only[dn,jg,or_false]at h;exact⟨k,du.1 hk,h⟩
 ·rintro⟨k,hk,h⟩
  exact⟨k,du.2 hk,by simpa using h⟩
theorem a06{s:PS}{a b:C}{x y:D}(h1:mc s a=some x)(h2:mc s b=some y):iz s [a,b]=some [x,y]:=by
 have:iz s [b]=some [y]:=by
  show(match mc s b,iz s []with|some x,some l=>some (x::l)|_,_=>none)=_
  rw[h2];rfl
 show(match mc s a,iz s [b]with|some x,some l=>some (x::l)|_,_=>none)=_
 rw[h1,this]
theorem Ko.data{s:PS}{b:Nat}{l:List Nd}{cells:List (List C)}(h:Ko s.mem b l cells):∃zs:List WN,zs.map WN.n=l∧(∀k,Nt (cells.map fun e=>Nt (e.map (deep s (k+1))))=some (zs.map Ag))∧
  cells.map (fun e=>e.map (C.rb s (Bw b l.length)))=(zs.map Ag).map (·.map .d):=by
 obtain⟨zs,hz,hp⟩:=aay (p:=fun k z=>z.n=l.getD k n0∧(∀q,Nt ((cells.getD k []).map (deep s (q+1)))=some (Ag z))∧(cells.getD k []).map (C.rb s (Bw b l.length))=(Ag z).map .d) l.length (fun k hk=>by
  obtain⟨z,z1,z2,z3⟩:=(h.2 k hk).data
  exact⟨z,z1,z2,z3 _ (Rv.2 ⟨k,hk,.inl rfl⟩) (Rv.2 ⟨k,hk,.inr rfl⟩)⟩)
 have hcl:=h.1
 refine⟨zs,?_,fun k=>?_,?_⟩
 ·refine ahv (by simpa using hz) fun i h1 h2=>?_
  rw[ahu,(hp i (by simpa using h1)).1]
  simp[bn,h2]
 ·have hlen:cells.length=zs.length:=by omega
  have:cells.map (fun e=>Nt (e.map (deep s (k+1))))=(zs.map Ag).map some:=by
   refine ahv (by simp[hlen]) fun i h1 h2=>?_
   simp only[ae]at h1 h2;simp only[ahu];have:=(hp i h2).2.1 k
   have e1:cells.getD i []=cells[i]:=by simp[bn,h1]
   rw[e1]at this;exact this
  rw[this]
  have:=Uw (some:List D→Option (List D)) id (zs.map Ag) fun x _=>rfl
  rwa[aGh]at this
 ·have hlen:cells.length=zs.length:=by omega
  refine ahv (by simp[hlen]) fun i h1 h2=>?_
  simp only[ae]at h1 h2;simp only[ahu];have:=(hp i h2).2.2
  have e1:cells.getD i []=cells[i]:=by simp[bn,h1]
  rw[e1]at this;exact this
theorem B5.data{s:PS}{b:Nat}{t:Tr}{cs:List C}(h:B5 s.mem b t cs):∃x y,iz s cs=some [x,y]∧Wk x (ix t.ps)∧Wk y (jj t.ns):=by
 obtain⟨cP,cN,cells,rfl,oP,hC,hN⟩:=h;obtain⟨x,x1,x2,x3,x4,x5⟩:=oP.data;obtain⟨zs,z1,z2,z3⟩:=hC.data;rcases hN with ⟨h0,rfl⟩|⟨h0,rfl,hb⟩
 ·exact⟨x,.bd,a06 x4 rfl,x1,by rw[h0];exact Wk.bd⟩
 ·have ow:s.bm (b+51)=some (.ny 5 cells):=hb
  have e1:s.els (b+51) (s.ver (b+51))=none:=by unfold PS.els;rw[if_pos rfl,ow]
  have e2:s.elc (b+51) (s.ver (b+51))=some (5,cells):=by unfold PS.elc;rw[if_pos rfl,ow]
  have e3:mc s (.ref (b+51) (s.mem.ver (b+51)) t.ns.length)=some (.dt 5 (zs.map Ag)):=by
   show mc s (.ref (b+51) (s.ver (b+51)) t.ns.length)=_;simp only[mc,e1,deep,e2,hC.1,if_true,z2 4,gz]
  refine⟨x,.dt 5 (zs.map Ag),a06 x4 e3,x1,?_⟩;rw[←z1];exact Gi zs
def N1(m:Mem)(B off:Nat)(isR:Nat→Bool)(bo:Nat→Go.PI.B):Nat→Nat→Option Go.PI.B
 |0=>m.bm
 |j+1=>if isR j=true then jf (N1 m B off isR bo j) (B+64+64*j+off) (some (bo j))else N1 m B off isR bo j
theorem Ei{m:Mem}{B off:Nat}{isR:Nat→Bool}{bo:Nat→Go.PI.B}{j:Nat}:N1 m B off isR bo (j+1)=if isR j=true then jf (N1 m B off isR bo j) (B+64+64*j+off) (some (bo j))else N1 m B off isR bo j:=rfl
theorem Dr{m:Mem}{B off:Nat}{isR:Nat→Bool}{bo:Nat→Go.PI.B}{i:Nat}:∀{j:Nat},(∀k,k<j→i≠B+64+64*k+off)→N1 m B off isR bo j i=m.bm i:=by
 intro j
 induction j with
 |zero=>intro _;rfl
 |succ j ih=>
  intro h;unfold N1;split
  ·rw[er _ _ _ _ (h j (by omega))];exact ih fun k hk=>h k (by omega)
  ·exact ih fun k hk=>h k (by omega)
theorem agr{m:Mem}{B off:Nat}{isR:Nat→Bool}{bo:Nat→Go.PI.B}{k:Nat}:∀{j:Nat},k<j→N1 m B off isR bo j (B+64+64*k+off)=if isR k=true then some (bo k)else m.bm (B+64+64*k+off):=by
 intro j
 induction j with
 |zero=>intro h;omega
 |succ j ih=>
  intro h;unfold N1;rcases a00 k j with h'|h'
  ·split
   ·rw[er _ _ _ _ (by omega)];exact ih h'
   ·exact ih h'
  ·have:k=j:=by omega
   subst this;split
   ·rw[bh]
   ·exact Dr fun q hq=>by omega
theorem Ws{α:Type}(f:α→α)(l:List α){q:Nat}(h:q<l.length):((l.take q).map f++l.drop q)[q]? =some l[q]:=by
 rw[jy (by simp only[ae,dd];omega)]
 simp only[ae,dd,ag5 (aFy h),Ms,lv,xu,ao h]
theorem Zr{α:Type}(f:α→α)(l:List α){q:Nat}(h:q≤l.length):((l.take q).map f++l.drop q).length=l.length:=by
 simp only[cb,ae,dd,qn];omega
theorem V5{α:Type}(f:α→α)(l:List α){q:Nat}(h:q<l.length):(l.take (q+1)).map f++l.drop (q+1)=((l.take q).map f++l.drop q).set q (f l[q]):=by
 have e1:l.take (q+1)=l.take q++[l[q]]:=by rw[ey];simp[h]
 have e2:l.drop q=l[q]::l.drop (q+1):=gd h
 have e3:((l.take q).map f).length=q:=by simp only[ae,dd];omega
 rw[e1,e2,fb,we,a2x _ _ (by omega),e3,Ms]
 rfl
def isRef:C→Bool
 | .ref .. =>true
 |_=>false
section
variable{P:Program}
theorem alo{s:PS}{cs:List C}{xs:List D}(h:iz s cs=some xs):snap s (mkv true cs)=some (.agg xs):=by
 unfold mkv
 cases ha:J4 cs with
 |none=>simp only[snap,h,gz]
 |some ds=>
  have e:∀(cs:List C) (ds:List D),J4 cs=some ds→iz s cs=some ds:=by
   intro cs
   induction cs with
   |nil=>intro ds h;simp[J4]at h;subst h;rfl
   |cons c r ih=>
    intro ds h
    cases c with
    |d x=>
     simp only[J4]at h;split at h
     ·rename_i l hl
      injection h with h
      subst h;simp only[iz,mc,ih l hl]
     ·cases h
    |_=>simp[J4]at h
  rw[e cs ds ha]at h
  injection h with h
  subst h;rfl
theorem Am{K:PS→Prop}{S:PS}{rr:List RI}{d:Option Nat}{f:Nat}{nm:ByteArray}{r:D}{cs:List C}{X Y:D}(key:∃x y,iz S cs=some [x,y]∧Wk x X∧Wk y Y)(hp:∀x y,Wk x X→Wk y Y→fp P f [.agg [x,y],.str nm] r)(hr:r.flat=true)
  (h4:jn P rr (S.put d (.d r)) K):Dd P f [mkv true cs,.d (.str nm)] [] false d S (xd P rr K):=by
 obtain⟨x,y,h1,h2,h3⟩:=key;refine iv (ds:=[.agg [x,y],.str nm]) ?_ (hp x y h2 h3) hr h4;have:=alo h1
 show(match snap S (mkv true cs),Gt S [.d (.str nm)]with|some x,some l=>some (x::l)|_,_=>none)=_
 rw[this];rfl
end
theorem B5.mono{m m':Mem}{b n:Nat}{t:Tr}{cs:List C}(h:B5 m b t cs)(hn:t.ns.length≤n)(hm:∀i,b≤i→i<b+96+64*n+64→m'.bm i=m.bm i∧m'.ver i=m.ver i):B5 m' b t cs:=by
 obtain⟨cP,cN,cells,rfl,oP,hC,hN⟩:=h
 refine⟨cP,cN,cells,rfl,oP.mono (hm _ (by omega) (by omega)).1 (hm _ (by omega) (by omega)).2,⟨hC.1,fun k hk=>(hC.2 k hk).mono (hm _ (by omega) (by omega)).1 (hm _ (by omega) (by omega)).2 (hm _ (by omega) (by omega)).1 (hm _ (by omega) (by omega)).2⟩,?_⟩
 rcases hN with h0|⟨h0,h1,h2⟩
 ·exact .inl h0
 ·exact .inr ⟨h0,by rw[(hm _ (by omega) (by omega)).2];exact h1,by rw[(hm _ (by omega) (by omega)).1];exact h2⟩
section
variable{P:Program}(A:Pr4 P)
theorem ard(e:Edt)(t:Tr)(hl:t.ns.length≤2^20)(hI:Af t e.n= -1){m:Mem}{u B0 b:Nat}{cs:List C}(hT:B5 m B0 t cs)(x7:m.bm u=some (.loc cs))(huB:u<B0)(hB:B0+96+64*t.ns.length+64≤b)(j1:qb m b):
  nj P A.lh m [.dv u (m.ver u) 0,.d (.agg (l9 e))] m (.d (.int .i64 4)):=by
 have r4:=fun(x y:D) (hx:Wk x (ix t.ps)) (hy:Wk y (jj t.ns))=>Gv A.toPr (ps:=t.ps) (ns:=t.ns) e.n (by omega) hx hy
 rw[show(⟨t.ps,t.ns⟩:Tr)=t from rfl,hI]at r4
 have oe:u≠b+3:=by omega
 have key:∀s1:PS,(∀i,i<b→s1.bm i=m.bm i∧s1.ver i=m.ver i)→∃x y,iz s1 cs=some [x,y]∧Wk x (ix t.ps)∧Wk y (jj t.ns):=fun s1 h=>
  B5.data (hT.mono (ar _) fun i h1 h2=>h i (by omega))
 refine jt A.mo A.Dz (by simp) b (fun c=>?_) (fun i=>ar _) (fun i b' ow=> .inl ow) (fun i es hi=> .inl hi) trivial
 show jd P (qo A.ja) (u0 m [.tmp 4] _ _) _;obtain⟨cP,cN,cells,rfl,oP,hC,hN⟩:=hT
 rcases oP with ⟨e1,rfl⟩|⟨rfl,Ad⟩<;>rcases hN with ⟨h0,rfl⟩|⟨h0,rfl,xp⟩<;>
 ·simp only[qo,enter,l9,go_sem,aa,ab,ag,reduceCtorEq,ax,x7,oe]
  refine Am (key _ fun i hi=>?_) r4 rfl ?_
  ·simp only[al]
   rw[if_neg (by omega),if_neg (by omega)]
   exact⟨rfl,rfl⟩
  ·simp only[go_sem,aa,bx,bc,reduceCtorEq,PS.mem,ae,nh,qa]
   exact ql j1 (by omega) rfl rfl
theorem avp(e:Edt)(t:Tr)(hl:t.ns.length≤2^20){k q:Nat}(hI:Af t e.n=(k:Int))(hJ:Af t e.t=(q:Int)){m:Mem}{u B0 b:Nat}{cs:List C}(hT:B5 m B0 t cs)(x7:m.bm u=some (.loc cs))(huB:u<B0)(hB:B0+96+64*t.ns.length+64≤b)(j1:qb m b):
  nj P A.lh m [.dv u (m.ver u) 0,.d (.agg (l9 e))] m (.d (.int .i64 7)):=by
 have r4:=fun(x y:D) (hx:Wk x (ix t.ps)) (hy:Wk y (jj t.ns))=>Gv A.toPr (ps:=t.ps) (ns:=t.ns) e.n (by omega) hx hy
 have Px:=fun(x y:D) (hx:Wk x (ix t.ps)) (hy:Wk y (jj t.ns))=>Gv A.toPr (ps:=t.ps) (ns:=t.ns) e.t (by omega) hx hy
 rw[show(⟨t.ps,t.ns⟩:Tr)=t from rfl,hI]at r4;rw[show(⟨t.ps,t.ns⟩:Tr)=t from rfl,hJ]at Px
 have hk0:¬((k:Int)<0):=by omega
 have hq0:(q:Int)≥0:=by omega
 have oe:u≠b+3:=by omega
 have key:∀s1:PS,(∀i,i<b→s1.bm i=m.bm i∧s1.ver i=m.ver i)→∃x y,iz s1 cs=some [x,y]∧Wk x (ix t.ps)∧Wk y (jj t.ns):=fun s1 h=>
  B5.data (hT.mono (ar _) fun i h1 h2=>h i (by omega))
 refine jt A.mo A.Dz (by simp) b (fun c=>?_) (fun i=>ar _) (fun i b' ow=> .inl ow) (fun i es hi=> .inl hi) trivial
 show jd P (qo A.ja) (u0 m [.tmp 4] _ _) _;obtain⟨cP,cN,cells,rfl,oP,hC,hN⟩:=hT
 rcases oP with ⟨e1,rfl⟩|⟨rfl,Ad⟩<;>rcases hN with ⟨h0,rfl⟩|⟨h0,rfl,xp⟩<;>
 ·simp only[qo,enter,l9,go_sem,aa,ab,ag,reduceCtorEq,ax,x7,oe]
  refine Am (key _ fun i hi=>?_) r4 rfl ?_
  ·simp only[al]
   rw[if_neg (by omega),if_neg (by omega)]
   exact⟨rfl,rfl⟩
  simp only[go_sem,aa,ab,ag,reduceCtorEq,ax,x7,oe,hk0]
  refine Am (key _ fun i hi=>?_) Px rfl ?_
  ·simp only[al]
   rw[if_neg (by omega),if_neg (by omega)]
   exact⟨rfl,rfl⟩
  ·simp only[go_sem,aa,reduceCtorEq,PS.mem,ae,nh,qa,hq0]
   exact ql j1 (by omega) rfl rfl
end
def We:cn:=
     (.seq (
     .region [⟨some 42,.bin .lss (.t 41) (.t 40),none,[]⟩] false []) (
     (.seq (
      (.cond (.t 42) (
      .skip) (
      .exit 1))) (
      (.seq (
      (.block 2 (
       (.seq (
       .region [⟨some 43,.te 5 (.t 39) (.t 41),none,[]⟩,
        ⟨some 44,.load 5 true (.t 43),none,[]⟩,
        ⟨some 7,.alloc [(.str ⟨#[]⟩),(.int .i64 0),.bd,.bd,.bd],none,[]⟩,
        ⟨none,.store 5 (.t 7) (.t 44),none,[]⟩] false []) (
       (.seq (
        .region [⟨some 45,.xj 4 (.t 7),none,[]⟩,
         ⟨some 46,.load 1 false (.t 45),none,[]⟩,
         ⟨some 47,.len .dt (.t 46),none,[]⟩,
         ⟨some 48,.ij (.c (.int .i64 0)),none,[]⟩] false []) (
        (.block 3 (
        (.loop (
         (.seq (
         .region [⟨some 49,.bin .lss (.t 48) (.t 47),none,[]⟩] false []) (
         (.seq (
          (.cond (.t 49) (
          .skip) (
          .exit 3))) (
          (.seq (
          (.block 4 (
           (.seq (
           .region [⟨some 50,.ij (.t 48),none,[]⟩,
            ⟨some 51,.te 1 (.t 46) (.t 48),none,[]⟩,
            ⟨some 52,.load 1 false (.t 51),none,[]⟩,
            ⟨some 8,.ij (.t 50),none,[]⟩,
            ⟨some 9,.ij (.t 52),none,[]⟩] false []) (
           (.seq (
            .region [⟨some 53,.ij (.t 9),none,[]⟩,
             ⟨some 54,.xj 1 (.t 3),none,[]⟩,
             ⟨some 55,.load 1 false (.t 54),none,[]⟩,
             ⟨some 56,.bin .eql (.t 53) (.t 55),none,[]⟩] false []) (
            (.cond (.t 56) (
            .region [⟨some 57,.xj 4 (.t 7),none,[]⟩,
             ⟨some 58,.load 1 false (.t 57),none,[]⟩,
             ⟨some 59,.ij (.t 8),none,[]⟩,
             ⟨some 60,.xj 2 (.t 3),none,[]⟩,
             ⟨some 61,.load 1 false (.t 60),none,[]⟩,
             ⟨some 62,.te 1 (.t 58) (.t 59),none,[]⟩,
             ⟨none,.store 1 (.t 62) (.t 61),none,[]⟩] false []) (
            .skip))))))))) (
          .region [⟨some 63,.bin .add (.t 48) (.c (.int .i64 1)),none,[]⟩,
           ⟨some 48,.ij (.t 63),none,[]⟩] false []))))))))))))))))) (
      .region [⟨some 64,.bin .add (.t 41) (.c (.int .i64 1)),none,[]⟩,
       ⟨some 41,.ij (.t 64),none,[]⟩] false []))))))
def rnS(o n s:ByteArray):ByteArray:=if jh s o then n else s
def aac(o n:ByteArray)(x:Nd):Nd:=⟨x.n,x.f,x.ins.map (rnS o n)⟩
def inR(cells:List (List C))(k:Nat):Bool:=isRef ((cells.getD k []).getD 4 (.d .bd))
def inB(o n:ByteArray)(L:List Nd)(k:Nat):B:= .arr 1 ((aac o n (L.getD k n0)).ins.map sv)
def Ym(m:Mem)(e:Edt)(b B nid:Nat)(L:List Nd)(cells:List (List C))(j:Nat)(s':PS):Prop:=
 s'.base=b∧s'.tmp 3= .dv (b+3) (s'.ver (b+3)) 0∧s'.bm (b+3)=some (.loc ((l9 e).map .d))∧s'.tmp 39= .ref nid (m.ver nid) L.length∧s'.tmp 40= .d (.int .i64 L.length)∧s'.mp=m.mp∧(∀i,i<b→s'.ver i=m.ver i)∧
 s'.bm nid=some (.ny 5 cells)∧(∀i,i<b→i≠nid→s'.bm i=N1 m B 35 (inR cells) (inB e.n e.t L) j i)
section
variable{P:Program}(A:Pr4 P)
theorem are{m:Mem}{e:Edt}{b B nid:Nat}{L:List Nd}{cells:List (List C)}(hC:Ko m B L cells)(hl:L.length≤2^20)(a1c:∀n∈L,n.ins.length≤2^30)(hB:B+64+64*L.length+64≤b)(aC2:nid<B+64)(Q:Exit→PS→Prop)(j:Nat)(s':PS)(hj:j≤L.length)
  (hR:Ym m e b B nid L cells j s')(h41:s'.tmp 41= .d (.int .i64 j))(hQ:∀s2,Ym m e b B nid L cells L.length s2→Q (.exit 1) s2):jd P We (ak8 L.length j (fun j s2=>Ym m e b B nid L cells j s2∧s2.tmp 41= .d (.int .i64 j)) Q) s':=by
 obtain⟨eb,f3,b3,f39,f40,emp,lk,xy,hblk⟩:=hR
 have xp:nid<b:=by omega
 have hvn:=lk nid xp;have hcl:=hC.1;by_cases iy:(j:Int)<L.length
 ·have cj:j<L.length:=by omega
  have wj:=br ((j:Int)+1) (by omega) (by omega)
  obtain⟨cV,cI,hce,oV,oI⟩:=hC.2 j cj
  have hjc:j<cells.length:=by omega
  have hg:cells[j]? =some [.d (.str (L.getD j n0).n),.d (.int .i64 (L.getD j n0).f.k),cV,.d (jv (L.getD j n0).f.ls),cI]:=by
   rw[←hce];simp[bn,hjc]
  have Yz:L.getD j n0∈L:=by
   have:L.getD j n0=L[j]:=by simp[bn,cj]
   rw[this];exact bz _
  have hli:=a1c _ Yz
  have hiR:inR cells j=isRef cI:=by unfold inR;rw[hce];rfl
  have a19:∀i,(i=B+64+64*j+45∨i=B+64+64*j+35)→s'.bm i=m.bm i∧s'.ver i=m.ver i:=fun i hi=>by
   refine⟨?_,lk i (by omega)⟩
   rw[hblk i (by omega) (by omega)]
   exact Dr fun k hk=>by omega
  have hV:=a19 (B+64+64*j+45) (.inl rfl);have hI:=a19 (B+64+64*j+35) (.inr rfl)
  generalize hnn:L.getD j n0=n at*
  have hv7:B+64+64*j+45≠b+7:=by omega
  have hi7:B+64+64*j+35≠b+7:=by omega
  have hi3:B+64+64*j+35≠b+3:=by omega
  have hiB:B+64+64*j+35<b:=by omega
  have hin:B+64+64*j+35≠nid:=by omega
  generalize aBv:B+64+64*j+45=vid at*
  generalize a7w:B+64+64*j+35=iid at*
  simp only[l9,cu,ez]at b3;rcases oV with ⟨e1,rfl⟩|⟨rfl,hvb⟩<;>rcases oI with ⟨e2,rfl⟩|⟨rfl,hib⟩
  ·simp only[We,jv,go_sem,aa,ab,reduceCtorEq,eb,f39,f40,h41,xy,hvn,iy,hg,hcl,toNat_cast,aj]
   refine dq 0 (fun q s2=>Ym m e b B nid L cells (j+1) s2∧s2.tmp 41= .d (.int .i64 j)∧s2.tmp 47= .d (.int .i64 0)∧s2.tmp 48= .d (.int .i64 0)) ?_ ?_
   ·refine⟨⟨rfl,?_,?_,?_,?_,emp,fun i hi=>?_,?_,fun i hi kg=>?_⟩,?_,?_,?_⟩
    ·simp only[al,aa,if_false,f3,dw]
    ·simp only[al,dw,aa,if_false,b3,l9,cu,ez]
    ·simp only[al,aa,if_false,f39]
    ·simp only[al,aa,if_false,f40]
    ·simp only[al]
     rw[if_neg (by omega)]
     exact lk i hi
    ·simp only[al]
     rw[if_neg (by omega),if_neg (by omega)]
     exact xy
    ·simp only[al]
     rw[if_neg (by omega),if_neg (by omega),hblk i hi kg]
     rw[Ei,if_neg (by rw[hiR];simp[isRef])]
    ·simp only[al,aa,if_false,h41]
    ·simp only[al,aa,if_false,if_true]
    ·simp only[al,aa,if_false,if_true]
   ·rintro q s2 hq ⟨⟨eb,f3,b3,f39,f40,emp,lk,xy,hblk⟩,h41,h47,h48⟩
    simp only[go_sem,aa,reduceCtorEq,h47,h48,h41,wj]
    exact⟨cj,⟨eb,f3,b3,f39,f40,emp,lk,xy,hblk⟩,by rw[jz];rfl⟩
  ·simp only[We,jv,go_sem,aa,ab,reduceCtorEq,eb,f39,f40,h41,xy,hvn,iy,hg,hcl,toNat_cast,aj,beq_self_eq_true,ae,hI.1,hI.2,hib,hi7]
   have hC7:∀q:List ByteArray,q.length=n.ins.length→(q.map sv).length=n.ins.length:=fun q h=>by rw[ae];exact h
   refine dq n.ins.length (fun q s2=>s2.base=b∧s2.tmp 3= .dv (b+3) (s2.ver (b+3)) 0∧s2.bm (b+3)=some (.loc ((l9 e).map .d))∧s2.tmp 39= .ref nid (m.ver nid) L.length∧s2.tmp 40= .d (.int .i64 L.length)∧s2.mp=m.mp∧(∀i,i<b→s2.ver i=m.ver i)∧
    s2.bm nid=some (.ny 5 cells)∧(∀i,i<b→i≠nid→i≠iid→s2.bm i=N1 m B 35 (inR cells) (inB e.n e.t L) j i)∧s2.bm iid=some (.arr 1 (((n.ins.take q).map (rnS e.n e.t)++n.ins.drop q).map sv))∧
    s2.tmp 41= .d (.int .i64 j)∧s2.tmp 7= .dv (b+7) (s2.ver (b+7)) 0∧(∃c0 c1 c2 c3,s2.bm (b+7)=some (.loc [c0,c1,c2,c3,.ref iid (m.ver iid) n.ins.length]))∧s2.tmp 46= .ref iid (m.ver iid) n.ins.length∧s2.tmp 47= .d (.int .i64 n.ins.length)∧s2.tmp 48= .d (.int .i64 q)) ?_ ?_
   ·refine⟨rfl,?_,?_,?_,?_,emp,fun i hi=>?_,?_,fun i hi kg Yy=>?_,?_,?_,?_,⟨_,_,_,_,bh _ _ _⟩,?_,?_,?_⟩
    ·simp only[al,aa,if_false,f3,dw]
    ·simp only[al,dw,aa,if_false,b3,l9,cu,ez]
    ·simp only[al,aa,if_false,f39]
    ·simp only[al,aa,if_false,f40]
    ·simp only[al]
     rw[if_neg (by omega)]
     exact lk i hi
    ·simp only[al]
     rw[if_neg (by omega),if_neg (by omega)]
     exact xy
    ·simp only[al]
     rw[if_neg (by omega),if_neg (by omega),hblk i hi kg]
    ·simp only[al,F8,ez,An,a9a]
     rw[if_neg (by omega),if_neg (by omega),hI.1]
     exact hib
    ·simp only[al,aa,if_false,h41]
    ·simp only[al,aa,if_false,if_true]
    ·simp only[al,aa,if_false,if_true]
    ·simp only[al,aa,if_false,if_true]
    ·simp only[al,aa,if_false,if_true]
     rfl
   ·clear f3 b3 f39 f40 h41 xy hblk eb lk emp
    rintro q s2 hq ⟨eb,f3,b3,f39,f40,emp,lk,xy,hblk,bi,h41,f7,⟨c0,c1,c2,c3,b7⟩,h46,h47,h48⟩
    have hvi:=lk iid (by omega)
    by_cases hq2:(q:Int)<n.ins.length
    ·have hq3:q<n.ins.length:=by omega
     have wq:=br ((q:Int)+1) (by omega) (by omega)
     have hW:=Zr (rnS e.n e.t) n.ins hq
     have hgq:(((n.ins.take q).map (rnS e.n e.t)++n.ins.drop q).map sv)[q]? =some [.str n.ins[q]]:=by
      rw[bp,Ws _ _ hq3];rfl
     have Qr:=V5 (rnS e.n e.t) n.ins hq3
     generalize hWl:(n.ins.take q).map (rnS e.n e.t)++n.ins.drop q=W at*
     simp only[l9,cu,ez]at b3;simp only[go_sem,aa,ab,ag,reduceCtorEq,eb,f3,b3,h46,h47,h48,hq2,hvi,bi,hgq,hW,ae,toNat_cast,aj];cases hs:jh n.ins[q] e.n
     ·have Ey:W.set q (rnS e.n e.t n.ins[q])=W:=by
       unfold rnS;rw[hs]
       refine a99 fun i=>?_
       rw[pv];split
       ·rename_i h;subst h
        have:=hgq;rw[bp,ak]at this;obtain⟨y,y1,y2⟩:=this;simp only[sv,a6a,D.str.injEq,and_true]at y2;subst y2
        rw[y1,if_pos (by omega)]
        simp
       ·rfl
      unfold jh at hs;simp only[go_sem,aa,reduceCtorEq,f3,b3,f39,f40,h41,f7,h46,h47,h48,hs,wq]
      refine⟨hq3,rfl,emp,lk,xy,hblk,?_,⟨c0,c1,c2,c3,b7⟩,by rw[jz];rfl⟩
      rw[Qr,Ey];exact bi
     ·have L1:(W.map sv).set q [.str e.t]=((n.ins.take (q+1)).map (rnS e.n e.t)++n.ins.drop (q+1)).map sv:=by
       rw[Qr,←Gu];unfold rnS;rw[hs];rfl
      unfold jh at hs;simp only[go_sem,aa,ab,ag,reduceCtorEq,f3,b3,f39,f40,h41,f7,b7,h46,h47,h48,hs,wq,hq2,hvi,bi,hgq,hW,ae,toNat_cast,aj,L1,hin.symm,hi3.symm,hi7.symm]
      refine⟨hq3,rfl,emp,lk,xy,fun i h1 h2 h3=>?_,⟨c0,c1,c2,c3,rfl⟩,by rw[jz];rfl⟩
      rw[if_neg h3];exact hblk i h1 h2 h3
    ·have:q=n.ins.length:=by omega
     subst this;rw[eo,Ma,th]at bi;simp only[go_sem,aa,reduceCtorEq,eb,h47,h48,h41,wj,hq2]
     refine⟨cj,⟨rfl,f3,b3,f39,f40,emp,lk,xy,fun i hi kg=>?_⟩,by rw[jz];rfl⟩
     rw[Ei,if_pos (by rw[hiR];rfl)]
     by_cases hii:i=iid
     ·subst hii
      rw[a7w,bh];rw[bi];unfold inB aac;rw[hnn]
     ·rw[a7w,er _ _ _ _ hii]
      exact hblk i hi kg hii
  ·simp only[We,jv,go_sem,aa,ab,reduceCtorEq,eb,f39,f40,h41,xy,hvn,iy,hg,hcl,toNat_cast,aj,beq_self_eq_true,ae,hV.1,hV.2,hvb,hv7]
   refine dq 0 (fun q s2=>Ym m e b B nid L cells (j+1) s2∧s2.tmp 41= .d (.int .i64 j)∧s2.tmp 47= .d (.int .i64 0)∧s2.tmp 48= .d (.int .i64 0)) ?_ ?_
   ·refine⟨⟨rfl,?_,?_,?_,?_,emp,fun i hi=>?_,?_,fun i hi kg=>?_⟩,?_,?_,?_⟩
    ·simp only[al,aa,if_false,f3,dw]
    ·simp only[al,dw,aa,if_false,b3,l9,cu,ez]
    ·simp only[al,aa,if_false,f39]
    ·simp only[al,aa,if_false,f40]
    ·simp only[al]
     rw[if_neg (by omega)]
     exact lk i hi
    ·simp only[al]
     rw[if_neg (by omega),if_neg (by omega)]
     exact xy
    ·simp only[al]
     rw[if_neg (by omega),if_neg (by omega),hblk i hi kg]
     rw[Ei,if_neg (by rw[hiR];simp[isRef])]
    ·simp only[al,aa,if_false,h41]
    ·simp only[al,aa,if_false,if_true]
    ·simp only[al,aa,if_false,if_true]
   ·rintro q s2 hq ⟨⟨eb,f3,b3,f39,f40,emp,lk,xy,hblk⟩,h41,h47,h48⟩
    simp only[go_sem,aa,reduceCtorEq,h47,h48,h41,wj]
    exact⟨cj,⟨eb,f3,b3,f39,f40,emp,lk,xy,hblk⟩,by rw[jz];rfl⟩
  ·simp only[We,jv,go_sem,aa,ab,reduceCtorEq,eb,f39,f40,h41,xy,hvn,iy,hg,hcl,toNat_cast,aj,beq_self_eq_true,ae,hV.1,hV.2,hvb,hv7,hI.1,hI.2,hib,hi7]
   have hC7:∀q:List ByteArray,q.length=n.ins.length→(q.map sv).length=n.ins.length:=fun q h=>by rw[ae];exact h
   refine dq n.ins.length (fun q s2=>s2.base=b∧s2.tmp 3= .dv (b+3) (s2.ver (b+3)) 0∧s2.bm (b+3)=some (.loc ((l9 e).map .d))∧s2.tmp 39= .ref nid (m.ver nid) L.length∧s2.tmp 40= .d (.int .i64 L.length)∧s2.mp=m.mp∧(∀i,i<b→s2.ver i=m.ver i)∧
    s2.bm nid=some (.ny 5 cells)∧(∀i,i<b→i≠nid→i≠iid→s2.bm i=N1 m B 35 (inR cells) (inB e.n e.t L) j i)∧s2.bm iid=some (.arr 1 (((n.ins.take q).map (rnS e.n e.t)++n.ins.drop q).map sv))∧
    s2.tmp 41= .d (.int .i64 j)∧s2.tmp 7= .dv (b+7) (s2.ver (b+7)) 0∧(∃c0 c1 c2 c3,s2.bm (b+7)=some (.loc [c0,c1,c2,c3,.ref iid (m.ver iid) n.ins.length]))∧s2.tmp 46= .ref iid (m.ver iid) n.ins.length∧s2.tmp 47= .d (.int .i64 n.ins.length)∧s2.tmp 48= .d (.int .i64 q)) ?_ ?_
   ·refine⟨rfl,?_,?_,?_,?_,emp,fun i hi=>?_,?_,fun i hi kg Yy=>?_,?_,?_,?_,⟨_,_,_,_,bh _ _ _⟩,?_,?_,?_⟩
    ·simp only[al,aa,if_false,f3,dw]
    ·simp only[al,dw,aa,if_false,b3,l9,cu,ez]
    ·simp only[al,aa,if_false,f39]
    ·simp only[al,aa,if_false,f40]
    ·simp only[al]
     rw[if_neg (by omega)]
     exact lk i hi
    ·simp only[al]
     rw[if_neg (by omega),if_neg (by omega)]
     exact xy
    ·simp only[al]
     rw[if_neg (by omega),if_neg (by omega),hblk i hi kg]
    ·simp only[al,F8,ez,An,a9a]
     rw[if_neg (by omega),if_neg (by omega),hI.1]
     exact hib
    ·simp only[al,aa,if_false,h41]
    ·simp only[al,aa,if_false,if_true]
    ·simp only[al,aa,if_false,if_true]
    ·simp only[al,aa,if_false,if_true]
    ·simp only[al,aa,if_false,if_true]
     rfl
   ·clear f3 b3 f39 f40 h41 xy hblk eb lk emp
    rintro q s2 hq ⟨eb,f3,b3,f39,f40,emp,lk,xy,hblk,bi,h41,f7,⟨c0,c1,c2,c3,b7⟩,h46,h47,h48⟩
    have hvi:=lk iid (by omega)
    by_cases hq2:(q:Int)<n.ins.length
    ·have hq3:q<n.ins.length:=by omega
     have wq:=br ((q:Int)+1) (by omega) (by omega)
     have hW:=Zr (rnS e.n e.t) n.ins hq
     have hgq:(((n.ins.take q).map (rnS e.n e.t)++n.ins.drop q).map sv)[q]? =some [.str n.ins[q]]:=by
      rw[bp,Ws _ _ hq3];rfl
     have Qr:=V5 (rnS e.n e.t) n.ins hq3
     generalize hWl:(n.ins.take q).map (rnS e.n e.t)++n.ins.drop q=W at*
     simp only[l9,cu,ez]at b3;simp only[go_sem,aa,ab,ag,reduceCtorEq,eb,f3,b3,h46,h47,h48,hq2,hvi,bi,hgq,hW,ae,toNat_cast,aj];cases hs:jh n.ins[q] e.n
     ·have Ey:W.set q (rnS e.n e.t n.ins[q])=W:=by
       unfold rnS;rw[hs]
       refine a99 fun i=>?_
       rw[pv];split
       ·rename_i h;subst h
        have:=hgq;rw[bp,ak]at this;obtain⟨y,y1,y2⟩:=this;simp only[sv,a6a,D.str.injEq,and_true]at y2;subst y2
        rw[y1,if_pos (by omega)]
        simp
       ·rfl
      unfold jh at hs;simp only[go_sem,aa,reduceCtorEq,f3,b3,f39,f40,h41,f7,h46,h47,h48,hs,wq]
      refine⟨hq3,rfl,emp,lk,xy,hblk,?_,⟨c0,c1,c2,c3,b7⟩,by rw[jz];rfl⟩
      rw[Qr,Ey];exact bi
     ·have L1:(W.map sv).set q [.str e.t]=((n.ins.take (q+1)).map (rnS e.n e.t)++n.ins.drop (q+1)).map sv:=by
       rw[Qr,←Gu];unfold rnS;rw[hs];rfl
      unfold jh at hs;simp only[go_sem,aa,ab,ag,reduceCtorEq,f3,b3,f39,f40,h41,f7,b7,h46,h47,h48,hs,wq,hq2,hvi,bi,hgq,hW,ae,toNat_cast,aj,L1,hin.symm,hi3.symm,hi7.symm]
      refine⟨hq3,rfl,emp,lk,xy,fun i h1 h2 h3=>?_,⟨c0,c1,c2,c3,rfl⟩,by rw[jz];rfl⟩
      rw[if_neg h3];exact hblk i h1 h2 h3
    ·have:q=n.ins.length:=by omega
     subst this;rw[eo,Ma,th]at bi;simp only[go_sem,aa,reduceCtorEq,eb,h47,h48,h41,wj,hq2]
     refine⟨cj,⟨rfl,f3,b3,f39,f40,emp,lk,xy,fun i hi kg=>?_⟩,by rw[jz];rfl⟩
     rw[Ei,if_pos (by rw[hiR];rfl)]
     by_cases hii:i=iid
     ·subst hii
      rw[a7w,bh];rw[bi];unfold inB aac;rw[hnn]
     ·rw[a7w,er _ _ _ _ hii]
      exact hblk i hi kg hii
 ·have:j=L.length:=by omega
  subst this;simp only[We,go_sem,reduceCtorEq,eb,f40,h41,iy]
  exact hQ _ ⟨by simp only[],f3,b3,f39,f40,emp,lk,xy,hblk⟩
end
end Go.PI
