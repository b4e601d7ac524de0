/- A part of the proof for HistoryParams: F7 to F38. Printed from longer texts. -/
import Derived.Test.YtjhmidapljifbaaGreatDoorC
import Derived.Shelf.SlSortCmp.NoneTotal
set_option linter.all false
set_option maxHeartbeats 64000000
open Array renaming getElem?_append→Gw,getElem?_append_left→o7,getElem?_eq_some_iff→ig,getElem?_extract→a1p,getElem?_modify→D4
open Bool renaming and_eq_true→cj,and_false→qo,and_self→aKb,and_true→Gy,eq_iff_iff→Sn,false_and→dz,false_eq_true→fk,false_or→L8,not_eq_true'→pz,not_false→Li,not_true→aF3,or_eq_false_iff→Rc,or_eq_true→N2,or_false→Vj,or_true→aJ8,true_and→uh,true_or→Ho
open Go.IntKind renaming i64→ab,wrap→P1
open Go.Op renaming bytesLess→alw
open Go.Proofs renaming sortWorld→a1n
open Go.Sort renaming grow→V4,putCells→Cl
open Go.World renaming cell?→aKc
open Int renaming add_zero→am7,natCast_add→Sl,natCast_nonneg→aq,natCast_zero→a1m,reduceBEq→L7,reduceBNe→jk,reduceLE→fp,reduceLT→dc,reduceNeg→de,reduceSub→aJg,reduceToNat→dv,tmod_eq_emod_of_nonneg→aCa
open List renaming all_cons→Vi,all_eq_false→a2v,all_eq_true→cz,any_cons→aK7,any_eq_false→auu,any_eq_not_all_not→agw,any_eq_true→A9,append_assoc→oq,append_nil→y0,cons_append→xz,drop→aL7,drop_drop→am3,drop_eq_getElem_cons→jq,drop_eq_nil_of_le→Sk,drop_length→am2,eq_nil_of_length_eq_zero→ix,filter_append→a7a,filter_cons→aaf,filter_eq_self→a1k,find?_eq_none→X8,find?_eq_some_iff_append→Z3,flatten_append→aJd,foldl_append→mc,foldl_cons→qe,foldl_nil→av5,getD→cd,getD_cons_zero→azs,getD_eq_getElem?_getD→D2,getElem?_append_left→l8,getElem?_append_right→mb,getElem?_cons_succ→gl,getElem?_cons_zero→dm,getElem?_drop→oo,getElem?_eq_getElem→ax,getElem?_eq_some_iff→aw,getElem?_map→cw,getElem?_range→M5,getElem_mem→cy,getElem_of_mem→jd,getElem_take→a2u,length→a3h,length_append→db,length_cons→ca,length_drop→uv,length_filter_le→zg,length_map→ag,length_nil→ed,length_pos_iff→a1i,length_replicate→aIq,length_reverse→a1h,length_take→dw,map_append→fu,map_cons→gf,map_drop→aus,map_eq_nil_iff→jc,map_nil→ni,map_take→Gx,mem_append→jm,mem_cons→dq,mem_flatMap→Ff,mem_iff_getElem→i6,mem_map→iw,mem_of_find?_eq_some→Ug,mem_of_getElem?→jt,mem_of_mem_take→Ix,mem_range→ep,not_mem_nil→kh,range→dn,reduceReplicate→dh,replicate→j5,reverse_cons→uy,reverse_reverse→ug,sum_append→aJ1,sum_cons→aK6,take→aL9,take_add_one→fm,take_append_drop→Gv,take_append_of_le_length→ayw,take_length→dt,take_of_length_le→tz
open Nat renaming add_assoc→qj,add_zero→Bw,le_of_lt→aKi,le_refl→ay,le_trans→ie,mod_lt→a73,mul_le_mul→aJj,reduceAdd→ae,reduceEqDiff→aa,reduceLeDiff→ah,reduceMul→ey,reducePow→azp,sub_self→Uz,sub_zero→Uy,zero_add→fj,zero_le→a3g
open Option renaming getD_some→j6,isSome→ez,map→aKx,map_eq_some_iff→ao,map_some→ir,toList_some→alv
open Option.some renaming inj→av0,injEq→aj
open Prod renaming ext→Q8
namespace Go.PI
abbrev Ed:=Sp×Sp
def Aq(e:Ed):Ed:=((-e.1.2,e.1.1),(-e.2.2,e.2.1))
def dbl(p:Sp):Sp:=(2*p.1,2*p.2)
def Iz(m:Sp)(f:Ed):Int:=
 if(2*f.1.1≤m.1∧m.1<2*f.2.1)∧j2 (dbl f.1) (dbl f.2) m<0 then-1
 else if(2*f.2.1≤m.1∧m.1<2*f.1.1)∧0<j2 (dbl f.1) (dbl f.2) m then 1 else 0
def e0:Ed:=((0,0),(0,0))
def ot(f:Nat→Int):Nat→Int
 |0=>0
 |k+1=>ot f k+f k
def sn(e:Ed):Sp:=(e.1.1+e.2.1,e.1.2+e.2.2)
def W5(l:List Ed)(a i:Nat):Int:=if i=a then 0 else Iz (sn (l.getD a e0)) (l.getD i e0)
def Wj(l:List Ed)(a:Nat):Int:=ot (W5 l a) l.length+if(l.getD a e0).2.1<(l.getD a e0).1.1 then 1 else 0
def Vt(l:List Ed)(a:Nat):Int:=if(l.getD a e0).1.1=(l.getD a e0).2.1 then Wj (l.map Aq) a else Wj l a
theorem avi(m:Sp)(f:Ed): -1≤Iz m f∧Iz m f≤1:=by unfold Iz;split<;>(try split)<;>omega
theorem aan{f:Nat→Int}(h:∀i,-1≤f i∧f i≤1):∀k:Nat,-(k:Int)≤ot f k∧ot f k≤k:=by
 intro k
 induction k with
 |zero=>simp[ot]
 |succ k ih=>have:=h k;simp only[ot];omega
theorem apq(l:List Ed)(a i:Nat): -1≤W5 l a i∧W5 l a i≤1:=by
 unfold W5;split
 ·omega
 exact avi _ _
theorem D9{l:List Ed}{k:Nat}(h:k<l.length):(l.map D5)[k]? =some [.int ab (l.getD k e0).1.1,.int ab (l.getD k e0).1.2,.int ab (l.getD k e0).2.1,.int ab (l.getD k e0).2.2]:=by
 simp[h,D5,cd]
def SmS(n:Int):Prop:= -1000≤n∧n≤1000
def akc(e:Ed):Prop:=SmS e.1.1∧SmS e.1.2∧SmS e.2.1∧SmS e.2.2
theorem aCe{n:Int}(h:SmS n):P1 ab (0-n)= -n:=by
 obtain⟨h1,h2⟩:=h;rw[cu _ (by omega) (by omega)];omega
section
variable{P:Program}(A:Pr P)
def ayt(l:List Ed)(a:Nat)(s':PS):Prop:=
 s'.tmp 0= .d (.ft 4 (l.map D5))∧s'.tmp 1= .d (.int ab a)∧s'.base=0∧s'.tmp 5= .ic 5 (s'.av 5) 0∧s'.da 5=some (.loc ((D5 (l.getD a e0)).map .d))
theorem aAc(l:List Ed)(a:Nat)(ha:a<l.length)(hl:l.length≤1000)(hs:∀e∈l,akc e):iq P A.Gf [R4 l,.int ab a] (.int ab (Vt l a)):=by
 refine du A.mo A.ac3 (by simp) ?_;show ko P (Rl A.my) (lg _ _) _
 have hsm:∀k,k<l.length→akc (l.getD k e0):=fun k hk=>by
  have:l.getD k e0=l[k]:=by simp[cd,hk]
  rw[this];exact hs _ (cy hk)
 have haI:(a:Int)<l.length:=by omega
 simp only[Rl,R4,go_sem,aa,dc,ae,ah,reduceCtorEq,bp,aq,D9 ha];refine aky (ayt (if(l.getD a e0).1.1=(l.getD a e0).2.1 then l.map Aq else l) a) ?_ ?_
 ·by_cases hv:(l.getD a e0).1.1=(l.getD a e0).2.1
  ·have hv':((l.getD a e0).1.1==(l.getD a e0).2.1)=true:=by simpa using hv
   rw[bm hv];simp only[go_sem,aa,hv'];refine fh l.length (fun k s'=>s'.tmp 0= .d (.ft 4 (l.map D5))∧s'.tmp 1= .d (.int ab a)∧s'.tmp 7= .d (.int ab k)∧s'.base=0∧s'.tmp 5= .ic 5 (s'.av 5) 0∧s'.da 5=some (.loc ((D5 (l.getD a e0)).map .d))∧se s' 61 4 (((l.take k).map Aq).map D5) (s'.tmp 6)) ?_ ?_
   ·simp only[go_sem,aa,reduceCtorEq,D5];exact se.nil
   rintro k s' hk ⟨f0,f1,f7,eb,f5,b5,acc⟩;by_cases hlt:(k:Int)<l.length
   ·have df:k<l.length:=by omega
    have wk:=cu ((k:Int)+1) (by omega) (by omega);obtain⟨z1,z2,z3,z4⟩:=hsm k df;simp only[go_sem,aa,dc,fp,dv,ey,ae,ah,reduceCtorEq,dh,f0,f7,ag,hlt,bp,aq,D9 df,aCe z2,aCe z4,eb];refine s5 (dd:=((l.take k).map Aq).map D5) (ys:=[D5 (Aq (l.getD k e0))]) (osz:=some 4) ?_ ?_ rfl (by simp[D5,D.one]) ?_ (by simp) ?_
    ·simp only[go_sem,aa];exact acc.mono (by simp[ak]) (by simp[ak])
    ·simp only[go_sem,aa,qm];rfl
    ·simp only[ag,ca,ed,dw];omega
    intro s2 g;have Fv:=g.acc (by simp);rw[g.tmp,ck]at Fv;simp only[fj]at Fv;have gv:=g.av 5 (by simp)
    have gb:s2.da 5=s'.da 5:=by rw[g.da];simp[ak]
    simp only[go_sem,aa,reduceCtorEq,g.tmp,f0,f1,f5,f7,wk,g.base,gb,gv,b5];refine⟨df,by simp,?_⟩;rw[fm,fu,fu]
    have e1:(l[k]?.toList.map Aq).map D5=[D5 (Aq (l.getD k e0))]:=by simp[df,cd]
    rw[e1];exact Fv.mono rfl rfl
   have hke:k=l.length:=by omega
   subst hke;rw[dt]at acc
   have hne:(l.map Aq).map D5≠[]:=by
    intro h;simp only[jc]at h;subst h;simp at ha
   rcases acc with ⟨q,_⟩|⟨_,q1,q2⟩
   ·exact absurd q hne
   have he:PS.dd s' 61 (s'.av 61)=some (4,(l.map Aq).map D5):=by unfold PS.dd;rw[bm rfl,q2]
   have hgt:((l.map Aq).map D5)[a]? =some (D5 ((l.map Aq).getD a e0)):=by simp[ha,cd]
   simp only[go_sem,aa,ae,reduceCtorEq,f0,f1,f7,ag,hlt,an8,eb,alf,Ii,q1,V.uu,C.uu,dq,kh,or_false,q2,bp,aq,hgt,D5,f5,b5];refine⟨by simp[ak],by simp[ak,f1],rfl,by simp[ak,f5],by simp[ak,D5]⟩
  have hv':((l.getD a e0).1.1==(l.getD a e0).2.1)=false:=by simpa using hv
  rw[al hv];simp only[go_sem,aa,hv'];refine⟨by simp[ak],by simp[ak],rfl,by simp[ak],by simp[ak,D5]⟩
 have hlen:(if(l.getD a e0).1.1=(l.getD a e0).2.1 then l.map Aq else l).length=l.length:=by split<;>simp
 have aB2:∀k,k<l.length→akc ((if(l.getD a e0).1.1=(l.getD a e0).2.1 then l.map Aq else l).getD k e0):=by
  intro k hk;split
  ·have e:(l.map Aq).getD k e0=Aq (l.getD k e0):=by simp[cd,hk]
   rw[e];obtain⟨⟨z1,z2⟩,⟨z3,z4⟩,⟨z5,z6⟩,z7,z8⟩:=hsm k hk;refine⟨⟨?_,?_⟩,⟨?_,?_⟩,⟨?_,?_⟩,?_,?_⟩<;>simp only[Aq]<;>omega
  exact hsm k hk
 have hln:Vt l a=Wj (if(l.getD a e0).1.1=(l.getD a e0).2.1 then l.map Aq else l) a:=by
  unfold Vt;split<;>rfl
 rw[hln];generalize(if(l.getD a e0).1.1=(l.getD a e0).2.1 then l.map Aq else l)=m at hlen aB2⊢;rintro s' ⟨f0,f1,eb,f5,b5⟩;obtain⟨⟨y1,y2⟩,⟨y3,y4⟩,⟨y5,y6⟩,y7,y8⟩:=aB2 a ha;have wm1:=cu ((m.getD a e0).1.1+(m.getD a e0).2.1) (by omega) (by omega);have wm2:=cu ((m.getD a e0).1.2+(m.getD a e0).2.2) (by omega) (by omega);simp only[go_sem,aa,dc,fp,dv,ey,ae,ah,reduceCtorEq,f5,b5,D5,eb,wm1,wm2]
 refine fh m.length (fun k s'=>s'.tmp 0= .d (.ft 4 (m.map D5))∧s'.tmp 1= .d (.int ab a)∧s'.tmp 10= .d (.int ab k)∧s'.tmp 9= .d (.int ab (ot (W5 m a) k))∧s'.base=0∧
  s'.tmp 5= .ic 5 (s'.av 5) 0∧s'.da 5=some (.loc ((D5 (m.getD a e0)).map .d))∧s'.tmp 8= .ic 8 (s'.av 8) 0∧s'.da 8=some (.loc [.d (.int ab (sn (m.getD a e0)).1),.d (.int ab (sn (m.getD a e0)).2)])) ?_ ?_
 ·simp only[go_sem,aa,reduceCtorEq,f0,f1,ot,sn,D5,a1m,f5,b5]
 rintro k s2 hk ⟨f0,f1,f10,f9,eb,f5,b5,f8,b8⟩;by_cases hlt:(k:Int)<m.length
 ·have df:k<m.length:=by omega
  have wk:=cu ((k:Int)+1) (by omega) (by omega);obtain⟨⟨z1,z2⟩,⟨z3,z4⟩,⟨z5,z6⟩,z7,z8⟩:=aB2 k (by omega);have v1:=cu (2*(m.getD k e0).1.1) (by omega) (by omega);have v2:=cu (2*(m.getD k e0).1.2) (by omega) (by omega);have v3:=cu (2*(m.getD k e0).2.1) (by omega) (by omega);have v4:=cu (2*(m.getD k e0).2.2) (by omega) (by omega);have sb:=aan (apq m a) k;have w1:=cu (ot (W5 m a) k+1) (by omega) (by omega);have w2:=cu (ot (W5 m a) k-1) (by omega) (by omega);have hcr:=Uk A (a:=dbl (m.getD k e0).1) (b:=dbl (m.getD k e0).2) (c:=sn (m.getD a e0)) ⟨⟨by simp only[dbl];omega,by simp only[dbl];omega⟩,by simp only[dbl];omega,by simp only[dbl];omega⟩ ⟨⟨by simp only[dbl];omega,by simp only[dbl];omega⟩,by simp only[dbl];omega,by simp only[dbl];omega⟩ ⟨⟨by simp only[sn];omega,by simp only[sn];omega⟩,by simp only[sn];omega,by simp only[sn];omega⟩;have aBh:=hcr;simp only[ya,dbl]at aBh
  have hup:W5 m a k=if k=a then 0 else Iz (sn (m.getD a e0)) (m.getD k e0):=rfl
  simp only[go_sem,aa,dc,fp,dv,ey,ae,ah,reduceCtorEq,f0,f1,f10,ag,hlt,bp,aq,D9 df,v1,v2,v3,v4,eb];by_cases hka:k=a
  ·have q:((k:Int)==(a:Int))=true:=by simp[hka]
   simp only[go_sem,aa,dc,reduceCtorEq,f0,f1,f9,f10,f5,f8,b5,b8,q,wk,df];simp only[ot,hup,bm hka,am7];simp
  have q:((k:Int)==(a:Int))=false:=by simp;omega
  simp only[go_sem,aa,dc,ae,ah,reduceCtorEq,f8,b8,q];by_cases hA:2*(m.getD k e0).1.1≤(sn (m.getD a e0)).1
  ·simp only[go_sem,aa,dc,ae,ah,reduceCtorEq,f8,b8,hA];by_cases hB:(sn (m.getD a e0)).1<2*(m.getD k e0).2.1
   ·simp only[go_sem,aa,ae,f8,b8,hB];refine Gh aBh ?_;by_cases hC:j2 (dbl (m.getD k e0).1) (dbl (m.getD k e0).2) (sn (m.getD a e0))<0
    ·have hz:Iz (sn (m.getD a e0)) (m.getD k e0)= -1:=by unfold Iz;rw[bm ⟨⟨hA,hB⟩,hC⟩]
     have hC':=hC;simp only[dbl]at hC';simp only[go_sem,aa,reduceCtorEq,f0,f1,f9,f10,f5,f8,b5,b8,wk,df,hC',w2];simp only[ot,hup,al hka,hz];simp;rfl
    have hD:¬2*(m.getD k e0).2.1≤(sn (m.getD a e0)).1:=by omega
    have hz:Iz (sn (m.getD a e0)) (m.getD k e0)=0:=by unfold Iz;rw[al (fun h=>hC h.2),al (fun h=>hD h.1.1)]
    have hC':=hC;simp only[dbl]at hC';simp only[go_sem,aa,dc,ae,ah,reduceCtorEq,f0,f1,f9,f10,f5,f8,b5,b8,wk,df,hC',hD];simp only[ot,hup,al hka,hz,am7];simp
   have hD:2*(m.getD k e0).2.1≤(sn (m.getD a e0)).1:=by omega
   have hE:¬(sn (m.getD a e0)).1<2*(m.getD k e0).1.1:=by omega
   have hz:Iz (sn (m.getD a e0)) (m.getD k e0)=0:=by unfold Iz;rw[al (fun h=>hB h.1.2),al (fun h=>hE h.1.2)]
   simp only[go_sem,aa,dc,ae,ah,reduceCtorEq,f0,f1,f9,f10,f5,f8,b5,b8,wk,df,hB,hD,hE];simp only[ot,hup,al hka,hz,am7];simp
  simp only[go_sem,aa,dc,ae,ah,reduceCtorEq,f8,b8,hA]
  have hE:(sn (m.getD a e0)).1<2*(m.getD k e0).1.1:=by omega
  by_cases hD:2*(m.getD k e0).2.1≤(sn (m.getD a e0)).1
  ·simp only[go_sem,aa,dc,ae,ah,reduceCtorEq,f8,b8,hD,hE];refine Gh aBh ?_;by_cases hC:0<j2 (dbl (m.getD k e0).1) (dbl (m.getD k e0).2) (sn (m.getD a e0))
   ·have hz:Iz (sn (m.getD a e0)) (m.getD k e0)=1:=by unfold Iz;rw[al (fun h=>hA h.1.1),bm ⟨⟨hD,hE⟩,hC⟩]
    have hC':=hC;simp only[dbl]at hC';simp only[go_sem,aa,reduceCtorEq,f0,f1,f9,f10,f5,f8,b5,b8,wk,df,hC',w1];simp only[ot,hup,al hka,hz];simp
   have hz:Iz (sn (m.getD a e0)) (m.getD k e0)=0:=by unfold Iz;rw[al (fun h=>hA h.1.1),al (fun h=>hC h.2)]
   have hC':=hC;simp only[dbl]at hC';simp only[go_sem,aa,reduceCtorEq,f0,f1,f9,f10,f5,f8,b5,b8,wk,df,hC'];simp only[ot,hup,al hka,hz,am7];simp
  have hz:Iz (sn (m.getD a e0)) (m.getD k e0)=0:=by unfold Iz;rw[al (fun h=>hA h.1.1),al (fun h=>hD h.1.1)]
  simp only[go_sem,aa,reduceCtorEq,f0,f1,f9,f10,f5,f8,b5,b8,wk,df,hD];simp only[ot,hup,al hka,hz,am7];simp
 have:k=m.length:=by omega
 subst this;have sb:=aan (apq m a) m.length;have w1:=cu (ot (W5 m a) m.length+1) (by omega) (by omega);by_cases hg:(m.getD a e0).2.1<(m.getD a e0).1.1
 ·simp only[go_sem,aa,dc,ae,ah,reduceCtorEq,f0,f9,f10,ag,hlt,f5,b5,D5,hg,w1,Wj]
 simp only[go_sem,aa,dc,ae,ah,reduceCtorEq,f0,f9,f10,ag,hlt,f5,b5,D5,hg,Wj,am7]
end
def Fl(a:Sp):Bool:=decide (-500≤a.1)&&(decide (a.1≤500)&&(decide (-500≤a.2)&&decide (a.2≤500)))
theorem cr2{u v:Sp}(hu:SmP u)(hv:SmP v):P1 ab (u.1*v.2)=u.1*v.2∧P1 ab (u.2*v.1)=u.2*v.1∧P1 ab (u.1*v.2-u.2*v.1)=u.1*v.2-u.2*v.1∧
  P1 ab (u.1*v.1)=u.1*v.1∧P1 ab (u.2*v.2)=u.2*v.2∧P1 ab (u.1*v.1+u.2*v.2)=u.1*v.1+u.2*v.2:=by
 obtain⟨⟨a1,a2⟩,a3,a4⟩:=hu;obtain⟨⟨b1,b2⟩,b3,b4⟩:=hv;have m1:=a7o (x:=u.1) (y:=v.2) (by omega) (by omega);have m2:=a7o (x:=u.2) (y:=v.1) (by omega) (by omega);have m3:=a7o (x:=u.1) (y:=v.1) (by omega) (by omega);have m4:=a7o (x:=u.2) (y:=v.2) (by omega) (by omega);exact⟨cu _ (by omega) (by omega),cu _ (by omega) (by omega),cu _ (by omega) (by omega),cu _ (by omega) (by omega),cu _ (by omega) (by omega),cu _ (by omega) (by omega)⟩
section
variable{P:Program}(A:Pr P)
theorem a0p{u v:Sp}(hu:SmP u)(hv:SmP v):iq P A.xj [ya u,ya v] (.int ab (clk u v)):=by
 refine du A.mo A.Yc (by simp) ?_;show ko P J8 (lg _ _) _;obtain⟨w1,w2,w3,w4,w5,w6⟩:=cr2 hu hv;simp only[J8,ya,go_sem,aa,dc,fp,dv,ey,ae,ah,reduceCtorEq,w1,w2,w3,w4,w5,w6];by_cases h1:u.1*v.2-u.2*v.1<0
 ·simp only[go_sem,aa,h1,clk]
 simp only[go_sem,aa,reduceCtorEq,h1];by_cases h2:0<u.1*v.2-u.2*v.1
 ·simp only[go_sem,aa,h1,h2,clk]
 simp only[go_sem,aa,reduceCtorEq,h2];by_cases h3:u.1*v.1+u.2*v.2<0
 ·simp only[go_sem,aa,h1,h2,h3,clk]
 simp only[go_sem,aa,h1,h2,h3,clk]
theorem aq6{u x y:Sp}(hu:SmP u)(hx:SmP x)(hy:SmP y):iq P A.Dn [ya u,ya x,ya y] (.bool (a7f u x y)):=by
 refine du A.mo A.a5h (by simp) ?_;show ko P (Nu A.xj) (lg _ _) _;obtain⟨w1,w2,w3,w4,w5,w6⟩:=cr2 hx hy;have c1:=a0p A hu hx;have c2:=a0p A hu hy;simp only[ya]at c1 c2;simp only[Nu,ya,go_sem,aa,ae];refine il c1 ?_;simp only[go_sem,aa,ae];refine il c2 ?_;simp only[go_sem,aa,reduceCtorEq];by_cases h:clk u x=clk u y
 ·have h':(clk u x !=clk u y)=false:=by simp[h]
  simp only[go_sem,aa,dc,fp,dv,ey,ae,ah,reduceCtorEq,h',w1,w2,w3,a7f,bm h]
 have h':(clk u x !=clk u y)=true:=by simp[h]
 simp only[go_sem,aa,reduceCtorEq,h',a7f,al h]
theorem avr(a:Sp):iq P A.Ez [ya a] (.bool (Fl a)):=by
 refine du A.mo A.a81 (by simp) ?_;show ko P Ev (lg _ _) _;unfold Fl;by_cases h1: -500≤a.1
 ·by_cases h2:a.1≤500
  ·by_cases h3: -500≤a.2
   ·simp only[Ev,ya,go_sem,aa,dc,fp,de,dv,ey,ae,ah,reduceCtorEq,h1,h2,h3]
   simp only[Ev,ya,go_sem,aa,dc,fp,de,dv,ey,ae,ah,reduceCtorEq,h1,h2,h3,dz]
  simp only[Ev,ya,go_sem,aa,dc,de,ae,ah,reduceCtorEq,h1,h2,dz]
 simp only[Ev,ya,go_sem,aa,dc,de,ae,ah,reduceCtorEq,h1,dz]
end
def tf(a b:Sp):Bool:=a.1==b.1&&a.2==b.2
def kz(a b:Sp):Sp:=(a.1-b.1,a.2-b.2)
def Vk(back d w:Sp):Bool:= !(!tf w back&&(!tf w d&&a7f back w d))
def Z7(p at_ nx:Sp)(e:Ed):Bool:=
 if tf at_ e.1 then Vk (kz p at_) (kz nx at_) (kz e.2 at_)
 else if tf at_ e.2 then Vk (kz p at_) (kz nx at_) (kz e.1 at_)else true
def Fk(l:List Sp)(k:Nat)(e:Ed):Bool:=Z7 (l.getD k (0,0)) (l.getD ((k+1)%l.length) (0,0)) (l.getD ((k+2)%l.length) (0,0)) e
def Nn(ls:List (List Sp))(es:List Ed):Bool:=
 (dn ls.length).all fun i=>(dn (ls.getD i []).length).all fun k=>(dn es.length).all fun j=>Fk (ls.getD i []) k (es.getD j e0)
theorem ah3{k n:Nat}:((k:Int)+2).tmod n=(((k+2)%n:Nat):Int):=by
 rw[aCa (by omega)];exact(Int.natCast_emod (k+2) n).symm
def SmL(p:Sp):Prop:=SmS p.1∧SmS p.2
theorem SmL.sub{a b:Sp}(ha:SmL a)(hb:SmL b):SmP (kz a b):=by
 obtain⟨⟨a1,a2⟩,a3,a4⟩:=ha;obtain⟨⟨b1,b2⟩,b3,b4⟩:=hb;refine⟨⟨?_,?_⟩,?_,?_⟩<;>simp only[kz]<;>omega
theorem SmL.p{a:Sp}(ha:SmL a):SmP a:=by
 obtain⟨⟨a1,a2⟩,a3,a4⟩:=ha;exact⟨⟨by omega,by omega⟩,by omega,by omega⟩
section
variable{P:Program}(A:Pr P)
theorem adp{a b:Sp}(ha:SmL a)(hb:SmL b):iq P A.uo [.agg [.int ab a.1,.int ab a.2],.agg [.int ab b.1,.int ab b.2]] (.agg [.int ab (a.1-b.1),.int ab (a.2-b.2)]):=
 avy A ha.p hb.p
def ad2(ls:List (List Sp))(es:List Ed)(i k n:Nat)(p at_ nx:Sp)(s':PS):Prop:=
 s'.tmp 0= .d (.ft 1 (ls.map fun l=>[vz l]))∧s'.tmp 1= .d (.ft 4 (es.map D5))∧s'.tmp 5= .d (.int ab i)∧s'.tmp 6= .d (.int ab n)∧s'.tmp 7= .d (.int ab k)∧s'.base=0∧
 s'.tmp 8= .ic 8 (s'.av 8) 0∧s'.da 8=some (.loc [.d (.int ab at_.1),.d (.int ab at_.2)])∧
 s'.tmp 9= .ic 9 (s'.av 9) 0∧s'.da 9=some (.loc [.d (.int ab nx.1),.d (.int ab nx.2)])∧
 s'.tmp 10= .ic 10 (s'.av 10) 0∧s'.da 10=some (.loc [.d (.int ab (p.1-at_.1)),.d (.int ab (p.2-at_.2))])
theorem avn(ls:List (List Sp))(es:List Ed)(h1:ls.length≤1000)(h2:es.length≤1000)(h3:∀l∈ls,l.length≤1000∧∀p∈l,SmL p)(h4:∀e∈es,SmL e.1∧SmL e.2):
  iq P A.Ey [lj ls,R4 es] (.bool (Nn ls es)):=by
 refine du A.mo A.a7z (by simp) ?_;show ko P (Pe A.uo A.Dn) (lg _ _) _;simp only[Pe,lj,R4,go_sem]
 refine fh ls.length (fun i s'=>s'.tmp 0= .d (.ft 1 (ls.map fun l=>[vz l]))∧s'.tmp 1= .d (.ft 4 (es.map D5))∧s'.tmp 5= .d (.int ab i)∧s'.base=0∧
  ∀i',i'<i→((dn (ls.getD i' []).length).all fun k=>(dn es.length).all fun j=>Fk (ls.getD i' []) k (es.getD j e0))=true) ?_ ?_
 ·simp only[go_sem,aa,reduceCtorEq];simp
 rintro i s' hi ⟨f0,f1,f5,eb,hI⟩;by_cases hlt:(i:Int)<ls.length
 ·have df:i<ls.length:=by omega
  have wi:=cu ((i:Int)+1) (by omega) (by omega);have hgi:=Fc df
  have hli:ls.getD i []=ls[i]:=by simp[cd,df]
  obtain⟨hn,hp⟩:=h3 ls[i] (cy df);simp only[go_sem,aa,reduceCtorEq,f0,f5,ag,hlt,hgi,bp,aq]
  refine fh ls[i].length (fun k s'=>s'.tmp 0= .d (.ft 1 (ls.map fun l=>[vz l]))∧s'.tmp 1= .d (.ft 4 (es.map D5))∧s'.tmp 5= .d (.int ab i)∧s'.tmp 6= .d (.int ab ls[i].length)∧s'.tmp 7= .d (.int ab k)∧s'.base=0∧
   ∀k',k'<k→((dn es.length).all fun j=>Fk (ls.getD i []) k' (es.getD j e0))=true) ?_ ?_
  ·simp only[go_sem,aa,reduceCtorEq,f0,f1,f5,eb];simp
  rintro k s' hk ⟨f0,f1,f5,f6,f7,eb,hK⟩;by_cases Gt:(k:Int)<ls[i].length
  ·have qg:k<ls[i].length:=by omega
   have wk:=cu ((k:Int)+1) (by omega) (by omega);have wk2:=cu ((k:Int)+2) (by omega) (by omega);have hm1:(k+1)%ls[i].length<ls[i].length:=a73 _ (by omega);have hm2:(k+2)%ls[i].length<ls[i].length:=a73 _ (by omega)
   have hne:¬((ls[i].length:Nat):Int)=0:=by omega
   have sm:∀q,q<ls[i].length→SmL (ls[i].getD q (0,0)):=fun q hq=>by
    have:ls[i].getD q (0,0)=ls[i][q]:=by simp[cd,hq]
    rw[this];exact hp _ (cy hq)
   have s1:=sm _ hm1;have s2:=sm _ hm2;have s0:=sm _ qg
   have Nb:(∀e,Fk (ls.getD i []) k e=Z7 (ls[i].getD k (0,0)) (ls[i].getD ((k+1)%ls[i].length) (0,0)) (ls[i].getD ((k+2)%ls[i].length) (0,0)) e):=fun e=>by unfold Fk;rw[hli]
   simp only[go_sem,aa,ae,reduceCtorEq,f0,f5,f6,f7,eb,Gt,hgi,bp,aq,wk,wk2,Z8,ah3,hne,D8 hm1,D8 hm2,D8 qg];refine il (adp A s0 s1) ?_;generalize ls[i].getD k (0,0)=p at s0 Nb⊢;generalize ls[i].getD ((k+1)%ls[i].length) (0,0)=at_ at s1 Nb⊢;generalize ls[i].getD ((k+2)%ls[i].length) (0,0)=nx at s2 Nb⊢;simp only[go_sem,aa,ae];refine fh es.length (fun j s'=>ad2 ls es i k ls[i].length p at_ nx s'∧s'.tmp 11= .d (.int ab j)∧∀j',j'<j→Fk (ls.getD i []) k (es.getD j' e0)=true) ?_ ?_
   ·simp only[ad2,go_sem,aa,reduceCtorEq,f0,f1,f5,f6,f7];simp
   rintro j s' hj ⟨⟨f0,f1,f5,f6,f7,eb,f8,b8,f9,b9,f10,b10⟩,f11,hJ⟩;by_cases aDm:(j:Int)<es.length
   ·have a13:j<es.length:=by omega
    have wj:=cu ((j:Int)+1) (by omega) (by omega)
    have hej:es.getD j e0=es[j]:=by simp[cd,a13]
    obtain⟨q1,q2⟩:=h4 es[j] (cy a13);have hge:=D9 a13;rw[hej]at hge;simp only[go_sem,aa,ae,ah,reduceCtorEq,f1,eb,f8,b8,f11,ag,aDm,hge,bp,aq]
    have bad:Fk (ls.getD i []) k (es.getD j e0)=false→Nn ls es=false:=fun hb=>
     all_false df (all_false (k:=k) (by rw[hli];exact qg) (all_false a13 hb))
    refine r9 (fun s'=>ad2 ls es i k ls[i].length p at_ nx s'∧s'.tmp 11= .d (.int ab j)∧∃w:Sp,SmP w∧Fk (ls.getD i []) k (es.getD j e0)=Vk (kz p at_) (kz nx at_) w∧s'.tmp 12= .ic 12 (s'.av 12) 0∧s'.da 12=some (.loc [.d (.int ab w.1),.d (.int ab w.2)])) ?_ ?_
    ·cases hA:(at_.1==es[j].1.1&&at_.2==es[j].1.2)
     ·simp only[go_sem,aa,ae,f1,f11,hge,bp,aq];cases hB:(at_.1==es[j].2.1&&at_.2==es[j].2.2)
      ·have hok:Fk (ls.getD i []) k (es.getD j e0)=true:=by
        rw[Nb,hej];unfold Z7 tf;rw[hA,hB];rfl
       simp only[go_sem,aa,reduceCtorEq,f0,f1,f5,f6,f7,f11,wj,a13];simp only[ad2,go_sem,aa,reduceCtorEq,f0,f1,f5,f6,f7,f8,b8,f9,b9,f10,b10];simp;exact qf hJ hok
      have hok:Fk (ls.getD i []) k (es.getD j e0)=Vk (kz p at_) (kz nx at_) (kz es[j].1 at_):=by
       rw[Nb,hej];unfold Z7 tf;rw[hA,hB];rfl
      simp only[go_sem,aa,ae,ah,f1,f8,b8,f11,hge,bp,aq];refine il (adp A q1 s1) ?_;simp only[go_sem,aa,ae,f11];exact⟨by simp only[ad2,go_sem,aa,reduceCtorEq,f0,f1,f5,f6,f7,f8,b8,f9,b9,f10,b10],_,q1.sub s1,hok,rfl⟩
     have hok:Fk (ls.getD i []) k (es.getD j e0)=Vk (kz p at_) (kz nx at_) (kz es[j].2 at_):=by
      rw[Nb,hej];unfold Z7 tf;rw[hA];rfl
     simp only[go_sem,aa,ae,f1,f8,b8,f11,hge,bp,aq];refine il (adp A q2 s1) ?_;simp only[go_sem,aa,ae,f11];exact⟨by simp only[ad2,go_sem,aa,reduceCtorEq,f0,f1,f5,f6,f7,f8,b8,f9,b9,f10,b10],_,q2.sub s1,hok,rfl⟩
    rintro s3 ⟨⟨f0,f1,f5,f6,f7,eb,f8,b8,f9,b9,f10,b10⟩,f11,w,hw,hok,f12,b12⟩;have hs:=aq6 A (s0.sub s1) hw (s2.sub s1);simp only[ya,kz]at hs;cases c1:(w.1==(kz p at_).1&&w.2==(kz p at_).2)
    ·have c1':=c1;simp only[kz]at c1';simp only[go_sem,aa,ae,eb,f8,b8,f9,b9,f10,b10,f12,b12,c1'];refine il (adp A s2 s1) ?_;cases c2:(w.1==(kz nx at_).1&&w.2==(kz nx at_).2)
     ·have c2':=c2;simp only[kz]at c2';simp only[go_sem,aa,ae,f8,b8,f9,b9,f10,b10,f12,b12,c2'];refine il (adp A s2 s1) ?_;simp only[go_sem,aa];refine Gh hs ?_;cases c3:a7f (kz p at_) w (kz nx at_)
      ·have c3':=c3;simp only[kz]at c3'
       have ok:Fk (ls.getD i []) k (es.getD j e0)=true:=by rw[hok];unfold Vk tf;rw[c1,c2,c3];rfl
       simp only[go_sem,aa,reduceCtorEq,f11,wj,a13,c3'];simp only[ad2,go_sem,aa,reduceCtorEq,f0,f1,f5,f6,f7,f8,b8,f9,b9,f10,b10];simp;exact qf hJ ok
      have c3':=c3;simp only[kz]at c3'
      have no:Fk (ls.getD i []) k (es.getD j e0)=false:=by rw[hok];unfold Vk tf;rw[c1,c2,c3];rfl
      simp only[go_sem,aa,c3',bad no]
     have c2':=c2;simp only[kz]at c2'
     have ok:Fk (ls.getD i []) k (es.getD j e0)=true:=by rw[hok];unfold Vk tf;rw[c1,c2];rfl
     simp only[go_sem,aa,reduceCtorEq,f11,wj,a13,c2'];simp only[ad2,go_sem,aa,reduceCtorEq,f0,f1,f5,f6,f7,f8,b8,f9,b9,f10,b10];simp;exact qf hJ ok
    have c1':=c1;simp only[kz]at c1'
    have ok:Fk (ls.getD i []) k (es.getD j e0)=true:=by rw[hok];unfold Vk tf;rw[c1];rfl
    simp only[go_sem,aa,ae,reduceCtorEq,eb,f10,b10,f11,wj,a13,f12,b12,c1'];simp only[ad2,go_sem,aa,reduceCtorEq,f0,f1,f5,f6,f7,f8,b8,f9,b9,f10,b10];simp;exact qf hJ ok
   have:j=es.length:=by omega
   subst this;simp only[go_sem,aa,reduceCtorEq,f0,f1,f5,f6,f7,eb,f11,ag,aDm,wk];exact⟨qg,by simp,qf hK (all_true fun j' hj'=>hJ j' hj')⟩
  have:k=ls[i].length:=by omega
  subst this;simp only[go_sem,aa,reduceCtorEq,f0,f1,f5,f6,f7,eb,Gt,wi];exact⟨df,by simp,qf hI (all_true fun k' hk'=>hK k' (by rw[hli]at hk';exact hk'))⟩
 have:i=ls.length:=by omega
 subst this;simp only[go_sem,aa,reduceCtorEq,f0,f5,ag,hlt];have:Nn ls es=true:=all_true fun i' Ds=>hI i' Ds;rw[this]
end
def uz(ls:List (List Sp)):Nat:=(ls.map a3h).sum
def Gs(ls:List (List Sp))(i:Nat):Bool:=
 decide (3≤(ls.getD i []).length)&&(decide (uz (ls.take (i+1))≤60)&&(dn (ls.getD i []).length).all fun k=>Fl ((ls.getD i []).getD k (0,0)))
def abp(ls:List (List Sp)):Bool:=(dn ls.length).all (Gs ls)
def a2r(e f:Ed):Bool:=e.1.1==f.1.1&&(e.1.2==f.1.2&&(e.2.1==f.2.1&&e.2.2==f.2.2))
def Zs(e f:Ed):Bool:=(!tf f.1 e.1&&(!tf f.1 e.2&&onB e f.1))||Mz e f
def Wz(i k:Nat)(e f:Ed):Bool:=decide (i≠k)&&(a2r e f||(tf e.1 f.2&&tf e.2 f.1))
def U3(es:List Ed)(i:Nat):Bool:=
 !tf (es.getD i e0).1 (es.getD i e0).2&&(dn es.length).all fun k=> !Zs (es.getD i e0) (es.getD k e0)&& !Wz i k (es.getD i e0) (es.getD k e0)
def G6(es:List Ed):Bool:=(dn es.length).all (U3 es)
def Wi(es:List Ed):Bool:=(dn es.length).all fun i=>Vt es i==1
def pg(ls:List (List Sp)):Bool:=abp ls&&(G6 (gr ls)&&(Wi (gr ls)&&Nn ls (gr ls)))
theorem Oo{ls:List (List Sp)}{i:Nat}(h:i<ls.length):uz (ls.take (i+1))=uz (ls.take i)+(ls.getD i []).length:=by
 unfold uz
 have e:ls[i]?.toList=[ls[i]]:=by simp[h]
 rw[fm,e,fu,aJ1];simp only[gf,ni,aK6,List.sum_nil,Bw,cd,ax h,j6]
theorem Ng(ls:List (List Sp)):(gr ls).length=uz ls:=by
 unfold gr uz
 induction ls with
 |nil=>rfl
 |cons l r ih=>simp[vn,ih]
theorem aie{ls:List (List Sp)}(h:∀i,i<ls.length→Gs ls i=true):∀k,k≤ls.length→3*k≤uz (ls.take k):=by
 intro k
 induction k with
 |zero=>intro _;simp
 |succ k ih=>
  intro hk;have h1:=ih (by omega);have h2:=h k (by omega);unfold Gs at h2;simp only[cj,decide_eq_true_eq]at h2;rw[Oo (by omega)];omega
theorem Nk{p:Sp}(h:Fl p=true):SmL p:=by
 unfold Fl at h;simp only[cj,decide_eq_true_eq]at h;exact⟨⟨by omega,by omega⟩,by omega,by omega⟩
theorem a9n{ls:List (List Sp)}{e:Ed}(h:e∈gr ls):∃l∈ls,e.1∈l∧e.2∈l:=by
 unfold gr at h;obtain⟨l,hl,he⟩:=Ff.1 h;refine⟨l,hl,?_⟩;unfold ja at he;obtain⟨k,hk,rfl⟩:=iw.1 he;have hk':=ep.1 hk;have hm:(k+1)%l.length<l.length:=a73 _ (by omega);unfold An
 have e1:l.getD k (0,0)=l[k]:=by simp[cd,hk']
 have e2:l.getD ((k+1)%l.length) (0,0)=l[(k+1)%l.length]:=by simp[cd,hm]
 rw[e1,e2];exact⟨cy hk',cy hm⟩
theorem a0w{ls:List (List Sp)}(h:abp ls=true):ls.length≤20∧uz ls≤60∧∀l∈ls,l.length≤60∧∀p∈l,Fl p=true:=by
 have hall:∀i,i<ls.length→Gs ls i=true:=fun i hi=>cz.1 h i (ep.2 hi)
 have aDb:uz ls≤60:=by
  by_cases h0:ls.length=0
  ·have:ls=[]:=ix h0;subst this;simp[uz]
  have:=hall (ls.length-1) (by omega);unfold Gs at this;simp only[cj,decide_eq_true_eq]at this
  have e:ls.length-1+1=ls.length:=by omega
  rw[e,dt]at this;exact this.2.1
 have hl:=aie hall ls.length (ay _);rw[dt]at hl;refine⟨by omega,aDb,fun l hl=>?_⟩;obtain⟨i,hi,rfl⟩:=i6.1 hl;have:=hall i hi
 have e:ls.getD i []=ls[i]:=by simp[cd,hi]
 unfold Gs at this;rw[e]at this;simp only[cj,decide_eq_true_eq]at this;refine⟨?_,fun p hp=>?_⟩
 ·have h1:=this.2.1;rw[Oo hi,e]at h1;omega
 obtain⟨k,hk,rfl⟩:=i6.1 hp;have:=cz.1 this.2.2 k (ep.2 hk);simpa[cd,hk]using this
section
variable{P:Program}(A:Pr P)
theorem an0(ls:List (List Sp))(h1:ls.length≤2^30)(h2:∀l∈ls,l.length≤2^30):iq P A.F0 [lj ls] (.bool (pg ls)):=by
 refine du A.mo A.a84 (by simp) ?_;show ko P (Pg A.Ez A.Cr A.Kx A.B8 A.Gf A.Ey) (lg _ _) _;simp only[Pg,lj,go_sem];refine fh ls.length (fun i s'=>s'.tmp 0= .d (.ft 1 (ls.map fun l=>[vz l]))∧s'.tmp 4= .d (.int ab i)∧s'.tmp 3= .d (.int ab (uz (ls.take i):Nat))∧uz (ls.take i)≤60∧∀i',i'<i→Gs ls i'=true) ?_ ?_
 ·simp only[go_sem,aa,reduceCtorEq];simp[uz]
 rintro i s' hi ⟨f0,f4,f3,ht,hI⟩;by_cases hlt:(i:Int)<ls.length
 ·have df:i<ls.length:=by omega
  have wi:=cu ((i:Int)+1) (by omega) (by omega);have hgi:=Fc df
  have hli:ls.getD i []=ls[i]:=by simp[cd,df]
  have hbl:=h2 ls[i] (cy df);have htt:=Oo df;rw[hli]at htt;have wt:=cu ((uz (ls.take i):Int)+ls[i].length) (by omega) (by omega)
  have no:Gs ls i=false→pg ls=false:=fun h=>by unfold pg;rw[show abp ls=false from all_false df h];rfl
  simp only[go_sem,aa,reduceCtorEq,f0,f3,f4,ag,hlt,hgi,bp,aq,wt];by_cases c1:(ls[i].length:Int)<3
  ·have:Gs ls i=false:=by unfold Gs;rw[hli,decide_eq_false (by omega)];rfl
   simp only[go_sem,aa,c1,no this]
  by_cases c2:(60:Int)<(uz (ls.take i):Int)+ls[i].length
  ·have:Gs ls i=false:=by
    unfold Gs
    have:¬uz (ls.take (i+1))≤60:=by omega
    simp only[this,decide_false,dz,qo]
   simp only[go_sem,aa,reduceCtorEq,f3,c1,c2,no this]
  simp only[go_sem,aa,reduceCtorEq,f3,c1,c2];refine fh ls[i].length (fun k s'=>s'.tmp 0= .d (.ft 1 (ls.map fun l=>[vz l]))∧s'.tmp 4= .d (.int ab i)∧s'.tmp 5= .d (.int ab k)∧s'.tmp 3= .d (.int ab ((uz (ls.take i):Int)+ls[i].length))∧∀k',k'<k→Fl ((ls.getD i []).getD k' (0,0))=true) ?_ ?_
  ·simp only[go_sem,aa,reduceCtorEq,f0,f4];simp
  rintro k s' hk ⟨f0,f4,f5,f3,hK⟩;by_cases Gt:(k:Int)<ls[i].length
  ·have qg:k<ls[i].length:=by omega
   have wk:=cu ((k:Int)+1) (by omega) (by omega);simp only[go_sem,aa,ae,reduceCtorEq,f0,f4,f5,ag,Gt,hgi,bp,aq,D8 qg];refine ff (avr A _) ?_;cases c3:Fl (ls[i].getD k (0,0))
   ·have:Gs ls i=false:=by
     unfold Gs;rw[all_false (k:=k) (by rw[hli];exact qg) (by rw[hli];exact c3)];simp only[qo]
    simp only[go_sem,aa,no this]
   simp only[go_sem,aa,reduceCtorEq,f0,f3,f4,f5,wk,qg];exact⟨by simp,qf hK (by rw[hli];exact c3)⟩
  simp only[go_sem,aa,reduceCtorEq,f0,f3,f4,f5,ag,Gt,hgi,bp,aq,wi,df];refine⟨by simp,?_,by omega,qf hI ?_⟩
  ·rw[htt];simp
  unfold Gs
  rw[hli,decide_eq_true (by omega),decide_eq_true (by omega),all_true fun k' hk'=>by have:=hK k' (by omega);rw[hli]at this;exact this]
  rfl
 have:i=ls.length:=by omega
 subst this;have hlo:abp ls=true:=all_true hI;obtain⟨g1,g2,g3⟩:=a0w hlo;have hel:=Ng ls;have hed:=aw8 A ls h1 (by omega)
 have hsm:∀e∈gr ls,SmL e.1∧SmL e.2:=fun e he=>by
  obtain⟨l,hl,k1,k2⟩:=a9n he;exact⟨Nk ((g3 l hl).2 _ k1),Nk ((g3 l hl).2 _ k2)⟩
 have htu:=avn A ls (gr ls) (by omega) (by omega) (fun l hl=>⟨by have:=(g3 l hl).1;omega,fun p hp=>Nk ((g3 l hl).2 p hp)⟩) hsm
 simp only[lj]at hed htu;simp only[go_sem,aa,reduceCtorEq,f0,f4,ag,hlt];refine ff hed ?_
 have hrp:pg ls=(G6 (gr ls)&&(Wi (gr ls)&&Nn ls (gr ls))):=by unfold pg;rw[hlo];rfl
 rw[hrp]
 have hle:(gr ls).length≤60:=by omega
 generalize gr ls=es at hle hsm htu⊢;simp only[R4]at htu⊢;simp only[go_sem,aa]
 have hsE:∀k,k<es.length→SmE (es.getD k e0)∧akc (es.getD k e0):=fun k hk=>by
  have e:es.getD k e0=es[k]:=by simp[cd,hk]
  rw[e];obtain⟨z1,z2⟩:=hsm es[k] (cy hk);exact⟨⟨z1.p,z2.p⟩,z1.1,z1.2,z2.1,z2.2⟩
 refine fh es.length (fun i s'=>s'.tmp 0= .d (.ft 1 (ls.map fun l=>[vz l]))∧s'.tmp 6= .d (.ft 4 (es.map D5))∧s'.tmp 7= .d (.int ab i)∧∀i',i'<i→U3 es i'=true) ?_ ?_
 ·simp only[go_sem,aa,reduceCtorEq,f0];simp
 clear f3 f4 f0;rintro i s1 hi1 ⟨f0,f6,f7,hI1⟩;by_cases aDn:(i:Int)<es.length
 ·have a57:i<es.length:=by omega
  have wi:=cu ((i:Int)+1) (by omega) (by omega)
  have no:U3 es i=false→(G6 es&&(Wi es&&Nn ls es))=false:=fun h=>by rw[show G6 es=false from all_false a57 h];rfl
  simp only[go_sem,aa,ae,ah,reduceCtorEq,f6,f7,ag,aDn,D9 a57,bp,aq];cases c1:((es.getD i e0).1.1==(es.getD i e0).2.1&&(es.getD i e0).1.2==(es.getD i e0).2.2)
  ·simp only[go_sem,aa];refine fh es.length (fun k s'=>s'.tmp 0= .d (.ft 1 (ls.map fun l=>[vz l]))∧s'.tmp 6= .d (.ft 4 (es.map D5))∧s'.tmp 7= .d (.int ab i)∧s'.tmp 8= .d (.int ab k)∧∀k',k'<k→(!Zs (es.getD i e0) (es.getD k' e0)&& !Wz i k' (es.getD i e0) (es.getD k' e0))=true) ?_ ?_
   ·simp only[go_sem,aa,reduceCtorEq,f0,f6,f7];simp
   rintro k s2 hk2 ⟨f0,f6,f7,f8,hK⟩;by_cases Gt:(k:Int)<es.length
   ·have qg:k<es.length:=by omega
    have wk:=cu ((k:Int)+1) (by omega) (by omega)
    have no2:(!Zs (es.getD i e0) (es.getD k e0)&& !Wz i k (es.getD i e0) (es.getD k e0))=false→(G6 es&&(Wi es&&Nn ls es))=false:=fun h=>no (by
     unfold U3
     rw[all_false qg h,qo])
    have hon:=aFc A (hsE i a57).1 (hsE k qg).1.1;have hcr:=ahh A (hsE i a57).1 (hsE k qg).1;simp only[dEd,ya]at hon hcr;simp only[go_sem,aa,ae,ah,reduceCtorEq,f6,f7,f8,ag,Gt,D9 a57,D9 qg,bp,aq];have gi:=D9 a57;have gk:=D9 qg
    generalize hei:es.getD i e0=ei at*
    generalize hek:es.getD k e0=ek at*
    refine Xs (fun s'=>s'.tmp 0= .d (.ft 1 (ls.map fun l=>[vz l]))∧s'.tmp 6= .d (.ft 4 (es.map D5))∧s'.tmp 7= .d (.int ab i)∧s'.tmp 8= .d (.int ab k)∧s'.tmp 122= .d (.bool (Zs ei ek))) ?_ ?_
    ·cases c2:(ek.1.1==ei.1.1&&ek.1.2==ei.1.2)
     ·cases c3:(ek.1.1==ei.2.1&&ek.1.2==ei.2.2)
      ·simp only[go_sem,aa,ae,ah,f6,f7,f8,gi,gk,bp,aq,c3];refine il hon ?_;cases c4:onB ei ek.1
       ·simp only[go_sem,aa,ae,f6,f7,f8,gi,gk,bp,aq];refine il hcr ?_;simp only[go_sem,aa,reduceCtorEq,f0,f6,f7,f8,Zs,tf,c2,c3,c4,L8,qo]
       simp only[go_sem,aa,reduceCtorEq,f0,f6,f7,f8,Zs,tf,c2,c3,c4,Ho]
      simp only[go_sem,aa,ae,ah,f6,f7,f8,gi,gk,bp,aq,c3];refine il hcr ?_;simp only[go_sem,aa,reduceCtorEq,f0,f6,f7,f8,Zs,tf,c2,c3,L8,dz,qo]
     simp only[go_sem,aa,ae,f6,f7,f8,gi,gk,bp,aq];refine il hcr ?_;simp only[go_sem,aa,reduceCtorEq,f0,f6,f7,f8,Zs,tf,c2,L8,dz]
    rintro s3 ⟨f0,f6,f7,f8,f122⟩;cases c5:Zs ei ek
    ·rw[c5]at f122;simp only[go_sem,aa,reduceCtorEq,f7,f8,f122];refine Xs (fun s'=>s'.tmp 0= .d (.ft 1 (ls.map fun l=>[vz l]))∧s'.tmp 6= .d (.ft 4 (es.map D5))∧s'.tmp 7= .d (.int ab i)∧s'.tmp 8= .d (.int ab k)∧s'.tmp 162= .d (.bool (Wz i k ei ek))) ?_ ?_
     ·by_cases c6:i=k
      ·have c6':((i:Int) !=(k:Int))=false:=by simp[c6]
       have hd:Wz i k ei ek=false:=by unfold Wz;simp[c6]
       simp only[go_sem,aa,reduceCtorEq,f0,f6,f7,f8,c6',hd]
      have c6':((i:Int) !=(k:Int))=true:=by simp;omega
      simp only[go_sem,aa,ae,f6,f7,f8,c6',gi,gk,bp,aq];cases c7:(ei.1.1==ek.1.1&&(ei.1.2==ek.1.2&&(ei.2.1==ek.2.1&&ei.2.2==ek.2.2)))
      ·cases c8:(ei.1.1==ek.2.1&&ei.1.2==ek.2.2)
       ·simp only[go_sem,aa,ae,ah,reduceCtorEq,f0,f6,f7,f8,c7,c8,gi,gk,bp,aq,Wz,a2r,tf,c6,L8,dz,qo]
       simp only[go_sem,aa,ae,ah,reduceCtorEq,f0,f6,f7,f8,c7,c8,gi,gk,bp,aq,Wz,a2r,tf,c6,L8]
      simp only[go_sem,aa,reduceCtorEq,f0,f6,f7,f8,c7,Wz,a2r,tf,c6,Ho]
     rintro s4 ⟨f0,f6,f7,f8,f162⟩;cases c9:Wz i k ei ek
     ·rw[c9]at f162;simp only[go_sem,aa,reduceCtorEq,f0,f6,f7,f8,wk,qg,f162];exact⟨by simp,qf hK (by rw[hek,c5,c9];rfl)⟩
     rw[c9]at f162;simp only[go_sem,f162,no2 (by rw[c5,c9];rfl)]
    rw[c5]at f122;simp only[go_sem,f122,no2 (by rw[c5];rfl)]
   have:k=es.length:=by omega
   subst this;simp only[go_sem,aa,reduceCtorEq,f0,f6,f7,f8,ag,Gt,wi,a57];refine⟨by simp,qf hI1 ?_⟩;unfold U3 tf;rw[c1,all_true hK];rfl
  have:U3 es i=false:=by unfold U3 tf;rw[c1];rfl
  simp only[go_sem,aa,no this]
 have:i=es.length:=by omega
 subst this;have heb:G6 es=true:=all_true hI1;rw[heb,uh];simp only[go_sem,aa,reduceCtorEq,f6,f7,ag,aDn];refine fh es.length (fun i s'=>s'.tmp 0= .d (.ft 1 (ls.map fun l=>[vz l]))∧s'.tmp 6= .d (.ft 4 (es.map D5))∧s'.tmp 9= .d (.int ab i)∧∀i',i'<i→(Vt es i'==1)=true) ?_ ?_
 ·simp only[go_sem,aa,reduceCtorEq,f0,f6];simp
 rintro i s2 hi2 ⟨f0,f6,f9,hI2⟩;by_cases Tn:(i:Int)<es.length
 ·have Kd:i<es.length:=by omega
  have wi:=cu ((i:Int)+1) (by omega) (by omega);have hlf:=aAc A es i Kd (by omega) (fun e he=>by obtain⟨z1,z2⟩:=hsm e he;exact⟨z1.1,z1.2,z2.1,z2.2⟩);simp only[R4]at hlf;simp only[go_sem,aa,reduceCtorEq,f6,f9,ag,Tn];refine il hlf ?_;by_cases c1:Vt es i=1
  ·have c1':(Vt es i !=1)=false:=by simp[c1]
   simp only[go_sem,aa,reduceCtorEq,f0,f6,f9,c1',wi,Kd];exact⟨by simp,qf hI2 (by simp[c1])⟩
  have c1':(Vt es i !=1)=true:=by simp[c1]
  have:Wi es=false:=all_false Kd (by simp[c1]);simp only[go_sem,aa,reduceCtorEq,c1',this,dz]
 have:i=es.length:=by omega
 subst this;have hlb:Wi es=true:=all_true hI2;simp only[go_sem,aa,reduceCtorEq,f0,f6,f9,ag,Tn];refine il htu ?_;simp only[go_sem,aa,hlb]
end
structure Ft where
 k:Int
 vs:List Vl
 ls:List (List Sp)
structure Nd where
 n:ByteArray
 f:Ft
 ins:List ByteArray
structure Tr where
 ps:List Pm
 ns:List Nd
def cFt(f:Ft):List D:=[.int ab f.k,x6 f.vs,lj f.ls]
def wz(n:Nd):List D:=[.str n.n,.int ab n.f.k,x6 n.f.vs,lj n.f.ls,nr n.ins]
def l7(l:List Nd):D:= .ft 5 (l.map wz)
def r8(t:Tr):List D:=[jn t.ps,l7 t.ns]
def v0:Vl:=⟨⟨#[]⟩,0,0⟩
def a8p(vs:List Vl):Bool:=(dn vs.length).all fun i=>Kk (vs.getD i v0)
def a4u(k:Int):Bool:=k==1||(k==2||k==3)
def tj(pr:List (List Sp)→Bool)(f:Ft):Bool:=
 decide (0≤f.k∧f.k<14)&&(((f.vs.length:Int)==Ib f.k.toNat)&&(a8p f.vs&&(if a4u f.k then pr f.ls else(f.ls.length:Int)==0)))
theorem asc{k:Nat}(h:k<14):((af3 k).toList==(⟨#[]⟩:ByteArray).toList)=false:=by
 match k,h with
 |0,_|1,_|2,_|3,_|4,_|5,_|6,_|7,_|8,_|9,_|10,_|11,_|12,_|13,_=>decide+kernel
 |n+14,h=>omega
theorem Yt{l:List Vl}{k:Nat}(h:k<l.length):(l.map cVl)[k]? =some [.str (l.getD k v0).n,.int ab (l.getD k v0).t,.int ab (l.getD k v0).a]:=by
 simp[h,cVl,cd]
section
variable{P:Program}(A:Pr P)
theorem a97(f:Ft)(hv:f.vs.length≤2^30)(h1:f.ls.length≤2^30)(h2:∀l∈f.ls,l.length≤2^30):iq P A.x8 [.agg (cFt f)] (.bool (tj pg f)):=by
 refine du A.mo A.a7y (by simp) ?_;show ko P (Pd A.B7 A.Dm A.yn A.F0) (lg _ _) _;simp only[Pd,cFt,x6,lj,go_sem,aa,ae,ah];refine ff (ahk A _) ?_;by_cases hk:0≤f.k∧f.k<14
 ·have hkn:f.k.toNat<14:=by omega
  have hkc:((f.k.toNat:Nat):Int)=f.k:=by omega
  have hc:=aqr A hkn;rw[hkc]at hc;rw[bm hk];simp only[go_sem,aa,ae,ah,asc hkn,ag];refine ff hc ?_;by_cases c1:(f.vs.length:Int)=Ib f.k.toNat
  ·have c1':((f.vs.length:Int) !=Ib f.k.toNat)=false:=by simp[c1]
   simp only[go_sem,aa,reduceCtorEq,c1'];refine fh f.vs.length (fun i s'=>s'.tmp 1= .ic 1 (s'.av 1) 0∧s'.da 1=some (.loc [.d (.int ab f.k),.d (.ft 3 (f.vs.map cVl)),.d (.ft 1 (f.ls.map fun l=>[vz l]))])∧s'.tmp 3= .d (.int ab i)∧∀i',i'<i→Kk (f.vs.getD i' v0)=true) ?_ ?_
   ·simp only[go_sem,aa];simp
   rintro i s' hi ⟨f1,b1,f3,hI⟩;by_cases hlt:(i:Int)<f.vs.length
   ·have df:i<f.vs.length:=by omega
    have wi:=cu ((i:Int)+1) (by omega) (by omega);simp only[go_sem,aa,ae,ah,reduceCtorEq,f1,b1,f3,ag,hlt,Yt df,bp,aq];refine ff (ab1 A (f.vs.getD i v0)) ?_;cases c2:Kk (f.vs.getD i v0)
    ·have:tj pg f=false:=by unfold tj;rw[show a8p f.vs=false from all_false df c2];simp only[dz,qo]
     simp only[go_sem,aa,this]
    simp only[go_sem,aa,reduceCtorEq,f1,b1,f3,wi,df];exact⟨by simp,qf hI c2⟩
   have:i=f.vs.length:=by omega
   subst this;have hvb:a8p f.vs=true:=all_true hI
   have hfb:tj pg f=if a4u f.k then pg f.ls else(f.ls.length:Int)==0:=by
    unfold tj
    have c1b:((f.vs.length:Int)==Ib f.k.toNat)=true:=by simp[c1]
    rw[decide_eq_true hk,hvb,c1b];rfl
   rw[hfb];have hr:=an0 A f.ls h1 h2;simp only[lj]at hr;unfold a4u;simp only[go_sem,aa,ae,ah,reduceCtorEq,f1,b1,f3,ag,hlt];cases q1:(f.k==1)
   ·cases q2:(f.k==2)
    ·cases q3:(f.k==3)
     ·simp only[go_sem,aa,ae,ah,reduceCtorEq,f1,b1,ag,q2,q3,Bool.or_self]
     simp only[go_sem,aa,ae,ah,reduceCtorEq,f1,b1,q2,q3,L8];refine ff hr ?_;simp only[go_sem,aa]
    simp only[go_sem,aa,ae,ah,reduceCtorEq,f1,b1,q2,L8,Ho];refine ff hr ?_;simp only[go_sem,aa]
   simp only[go_sem,aa,ae,f1,b1,Ho];refine ff hr ?_;simp only[go_sem,aa]
  have c1':((f.vs.length:Int) !=Ib f.k.toNat)=true:=by simp[c1]
  have c1b:((f.vs.length:Int)==Ib f.k.toNat)=false:=by simp[c1]
  have:tj pg f=false:=by unfold tj;rw[c1b];simp only[dz,qo]
  simp only[go_sem,aa,reduceCtorEq,c1',this]
 have:tj pg f=false:=by unfold tj;rw[decide_eq_false hk];rfl
 rw[al hk];simp only[go_sem,aa,gq,this]
end
def Ou(v:Vl)(x:Int×Bool)(p:Pm):Int×Bool:=if kf p.n v.n then(v.t*p.v+v.a,true)else x
def ov(v:Vl)(l:List Pm):Int×Bool:=l.foldl (Ou v) (v.a,isE v.n)
def p8(pr:List (List Sp)→Bool)(f:Ft)(l:List Pm):List Int×Int:=
 if tj pr f=false then([],220)else if yd l=false then([],1)
 else if f.vs.all (fun v=>(ov v l).2)then(f.vs.map fun v=>(ov v l).1,0)else([],4)
def ve(n:Int):List D:=[.int ab n]
def a6c(x:List Int×Int):D:= .Aa [.ft 1 (x.1.map ve),.int ab x.2]
theorem ax5{x y:Int}(hx: -1000000≤x∧x≤1000000)(hy: -1000000≤y∧y≤1000000): -1000000000000≤x*y∧x*y≤1000000000000:=by
 have h1:x.natAbs≤1000000:=by omega
 have h2:y.natAbs≤1000000:=by omega
 have:=aJj h1 h2;rw[←Int.natAbs_mul]at this;omega
theorem a4h{n:Int}(h:Py n=true): -1000000≤n∧n≤1000000:=by
 unfold Py at h;simpa using h
theorem a3k{v:Vl}(h:Kk v=true):(-1000000≤v.t∧v.t≤1000000)∧(-1000000≤v.a∧v.a≤1000000):=by
 unfold Kk at h;simp only[cj]at h;exact⟨a4h h.1,a4h h.2.1⟩
theorem Wx{pr:List (List Sp)→Bool}{f:Ft}(h:tj pr f=true):∀i,i<f.vs.length→Kk (f.vs.getD i v0)=true:=by
 unfold tj at h;simp only[cj]at h;exact fun i hi=>cz.1 h.2.2.1 i (ep.2 hi)
theorem Xw{l:List Pm}(h:yd l=true):l.length≤20∧∀i (hi:i<l.length),Py (l[i]).v=true:=by
 unfold yd at h;simp only[cj,decide_eq_true_eq]at h;refine⟨h.1,fun i hi=>?_⟩;have:=cz.1 h.2 i (ep.2 hi);unfold a7l at this;simp only[ax hi,cj]at this;exact this.2.1
theorem R2{pr:List (List Sp)→Bool}{f:Ft}(h:tj pr f=true):f.vs.length≤6:=by
 unfold tj at h;simp only[cj,decide_eq_true_eq,beq_iff_eq]at h;obtain⟨⟨h0,h1⟩,h2,_⟩:=h
 have:f.k.toNat<14:=by omega
 have hc:Ib f.k.toNat≤6:=by
  generalize f.k.toNat=k at this
  match k,this with
  |0,_|1,_|2,_|3,_|4,_|5,_|6,_|7,_|8,_|9,_|10,_|11,_|12,_|13,_=>decide
  |n+14,h=>omega
 omega
theorem aer{v:Vl}{l:List Pm}{k:Nat}(h:k<l.length):ov v (l.take (k+1))=Ou v (ov v (l.take k)) l[k]:=by
 unfold ov;rw[fm,mc];simp[h]
theorem adg{sz:Nat}{x:D}:∀G v,gj G (.Aa [.cq,x]) v→gj G (.Aa [.ft sz [],x]) v:=by
 intro G v h
 cases h with
 | @Aa _ vs hl hr=>
  refine .Aa hl fun i y u hy hu=>?_
  match i with
  |0=>
   simp only[dm,aj]at hy;subst hy;exact Ku G u (hr 0 .cq u rfl hu)
  |i+1=>exact hr (i+1) y u hy hu
theorem Yu{l:List Pm}{k:Nat}(h:k<l.length):(l.map tx)[k]? =some [.str l[k].n,.int ab l[k].v]:=by simp[h,tx]
section
variable{P:Program}(A:Pr P)
theorem ady(f:Ft)(l:List Pm)(hv:f.vs.length≤2^30)(h1:f.ls.length≤2^30)(h2:∀l∈f.ls,l.length≤2^30):iq P A.zy [.agg (cFt f),jn l] (a6c (p8 pg f l)):=by
 have main:iq P A.zy [.agg (cFt f),jn l] (.Aa [if(p8 pg f l).1.map ve=[]then .cq else .ft 1 ((p8 pg f l).1.map ve),.int ab (p8 pg f l).2]):=by
  refine du A.mo A.a2a (by simp) ?_;show ko P (Me A.x8 A.ow) (lg _ _) _;have hr:=a97 A f hv h1 h2;simp only[cFt,x6,lj]at hr;simp only[Me,cFt,x6,lj,jn,go_sem,aa,ae];refine ff hr ?_;cases c1:tj pg f
  ·have:p8 pg f l=([],220):=by unfold p8;rw[bm c1]
   rw[this];simp only[go_sem,aa]
  simp only[go_sem,aa];refine ff (Vo A l) ?_;cases c2:yd l
  ·have:p8 pg f l=([],1):=by unfold p8;rw[al (by rw[c1];simp),bm c2]
   rw[this];simp only[go_sem,aa]
  have hN:p8 pg f l=if f.vs.all (fun v=>(ov v l).2)then(f.vs.map fun v=>(ov v l).1,0)else([],4):=by
   unfold p8;rw[al (by rw[c1];simp),al (by rw[c2];simp)]
  rw[hN];have hfl:=R2 c1;obtain⟨hpl,hpv⟩:=Xw c2;simp only[go_sem,aa]
  refine fh f.vs.length (fun i s'=>s'.base=0∧s'.tmp 1= .d (.ft 2 (l.map tx))∧s'.tmp 2= .ic 2 (s'.av 2) 0∧s'.da 2=some (.loc [.d (.int ab f.k),.d (.ft 3 (f.vs.map cVl)),.d (.ft 1 (f.ls.map fun l=>[vz l]))])∧s'.tmp 7= .d (.int ab i)∧
   se s' 67 1 (((f.vs.take i).map fun v=>(ov v l).1).map ve) (s'.tmp 6)∧∀i',i'<i→(ov (f.vs.getD i' v0) l).2=true) ?_ ?_
  ·simp only[go_sem,aa];refine⟨se.nil,by simp⟩
  rintro i s' hi ⟨eb,f1,f2,b2,f7,acc,hI⟩;by_cases hlt:(i:Int)<f.vs.length
  ·have df:i<f.vs.length:=by omega
   have wi:=cu ((i:Int)+1) (by omega) (by omega);have hvi:=Wx c1 i df
   have hgi:f.vs.getD i v0=f.vs[i]:=by simp[cd,df]
   have hg:=Yt df;obtain⟨⟨t1,t2⟩,a1,a2⟩:=a3k hvi;simp only[go_sem,aa,ae,ah,reduceCtorEq,eb,f2,b2,f7,ag,hlt,hg,bp,aq]
   generalize hvv:f.vs.getD i v0=v at*
   refine fh l.length (fun k s'=>s'.base=0∧s'.tmp 1= .d (.ft 2 (l.map tx))∧s'.tmp 2= .ic 2 (s'.av 2) 0∧s'.da 2=some (.loc [.d (.int ab f.k),.d (.ft 3 (f.vs.map cVl)),.d (.ft 1 (f.ls.map fun l=>[vz l]))])∧s'.tmp 7= .d (.int ab i)∧
    se s' 67 1 (((f.vs.take i).map fun v=>(ov v l).1).map ve) (s'.tmp 6)∧s'.tmp 8= .ic 8 (s'.av 8) 0∧s'.da 8=some (.loc [.d (.str v.n),.d (.int ab v.t),.d (.int ab v.a)])∧s'.tmp 11= .d (.int ab k)∧
    s'.tmp 9= .d (.int ab (ov v (l.take k)).1)∧s'.tmp 10= .d (.bool (ov v (l.take k)).2)) ?_ ?_
   ·simp only[go_sem,aa,f1,f2,b2,f7];refine⟨acc.mono (by simp[ak]) (by simp[ak]),by simp[ov],by simp[ov,isE]⟩
   clear f1 f2 b2 f7 eb acc;rintro k s2 hk ⟨eb,f1,f2,b2,f7,acc,f8,b8,f11,f9,f10⟩;by_cases Gt:(k:Int)<l.length
   ·have qg:k<l.length:=by omega
    have wk:=cu ((k:Int)+1) (by omega) (by omega);have hp:=a4h (hpv k qg);have m1:=ax5 ⟨t1,t2⟩ hp;have w1:=cu (v.t*l[k].v) (by omega) (by omega);have w2:=cu (v.t*l[k].v+v.a) (by omega) (by omega);have re:=aer (v:=v) qg;simp only[go_sem,aa,ae,ah,reduceCtorEq,eb,f1,f8,b8,f11,ag,Gt,Yu qg,bp,aq];cases c3:(l[k].n.toList==v.n.toList)
    ·have e:Ou v (ov v (l.take k)) l[k]=ov v (l.take k):=by unfold Ou kf;rw[c3];rfl
     simp only[go_sem,aa,reduceCtorEq,f1,f2,b2,f7,f8,b8,f9,f10,f11,wk,qg,re,e];refine⟨acc.mono rfl rfl,by simp⟩
    have e:Ou v (ov v (l.take k)) l[k]=(v.t*l[k].v+v.a,true):=by unfold Ou kf;rw[c3];rfl
    simp only[go_sem,aa,ae,ah,reduceCtorEq,f1,f2,b2,f7,f8,b8,f9,f10,f11,wk,qg,re,e,Yu qg,bp,aq,w1,w2];refine⟨acc.mono rfl rfl,by simp⟩
   have:k=l.length:=by omega
   subst this;rw[dt]at f9 f10;simp only[go_sem,aa,reduceCtorEq,eb,f1,f2,b2,f7,f10,f11,ag,Gt];cases c4:(ov v l).2
   ·have hall:f.vs.all (fun v=>(ov v l).2)=false:=by
     rw[a2v];exact⟨f.vs[i],cy df,by rw[←hgi,c4];simp⟩
    simp only[go_sem,aa,hall]
   simp only[go_sem,aa,dh,f9];refine s5 (dd:=((f.vs.take i).map fun v=>(ov v l).1).map ve) (ys:=[ve (ov v l).1]) (osz:=some 1) ?_ ?_ rfl (by simp[ve,D.one]) ?_ (by simp) ?_
   ·simp only[go_sem,aa];exact acc.mono (by simp[ak]) (by simp[ak])
   ·simp only[go_sem,aa,qm];rfl
   ·simp only[ag,ca,ed,dw];omega
   intro s3 g;have Fv:=g.acc (by simp);rw[g.tmp,ck]at Fv;simp only[fj]at Fv;have gv:=g.av 2 (by simp)
   have gb:s3.da 2=s2.da 2:=by rw[g.da];simp[ak]
   simp only[go_sem,aa,reduceCtorEq,g.tmp,f1,f2,f7,wi,g.base,gb,gv,b2,df];refine⟨by simp,?_,qf hI (by rw[hvv];exact c4)⟩
   have e1:(((f.vs.take (i+1)).map fun v=>(ov v l).1).map ve)=((f.vs.take i).map fun v=>(ov v l).1).map ve++[ve (ov v l).1]:=by
    rw[fm,fu,fu];simp[df,←hgi]
   rw[e1];exact Fv.mono rfl rfl
  have:i=f.vs.length:=by omega
  subst this;rw[dt]at acc
  have hall:f.vs.all (fun v=>(ov v l).2)=true:=by
   rw[cz];intro v hv;obtain⟨i,hi,rfl⟩:=i6.1 hv;have:=hI i hi;simpa[cd,hi]using this
  rw[hall];simp only[go_sem,aa,ae,ah,reduceCtorEq,eb,f2,b2,f7,ag,hlt];rcases acc with ⟨a1,a2⟩|⟨a1,a2,a3⟩
  ·simp only[go_sem,a1,a2]
  rw[al a1,a2];simp only[go_sem,a3,ag]
 generalize p8 pg f l=x at main⊢;refine main.M7 fun G v hv=>?_;split at hv
 ·rename_i he;unfold a6c;rw[he];exact adg G v hv
 exact hv
end
theorem se.aEm{P:Program}{s:PS}{K:PS→Prop}{r:List RI}{d:Option Nat}{id sz f:Nat}{dd:List (List D)}{v:V}{y x:D}(acc:se s id sz dd v)(h2:iq P f [.ft sz dd,y] x)(hx:x.flat=true)(h4:l5 P r (s.put d (.d x)) K):
  F9 P f [v,.d y] [] false d s (Ab P r K):=by
 rcases acc with ⟨rfl,rfl⟩|⟨h1,rfl,h3⟩
 ·exact⟨[.cq,y],x,rfl,h2.w0.toC,.inl hx,h4⟩
 have he:PS.dd s id (s.av id)=some (sz,dd):=by unfold PS.dd;rw[bm rfl,h3]
 exact⟨[.ft sz dd,y],x,by simp[J0,snap,he],h2.toC,.inl hx,h4⟩
theorem se.aEl{P:Program}{s:PS}{K:PS→Prop}{r:List RI}{d:Option Nat}{id sz f:Nat}{dd:List (List D)}{v:V}{y x:D}(acc:se s id sz dd v)(h2:iq P f [y,.ft sz dd] x)(hx:x.flat=true)(h4:l5 P r (s.put d (.d x)) K):
  F9 P f [.d y,v] [] false d s (Ab P r K):=by
 rcases acc with ⟨rfl,rfl⟩|⟨h1,rfl,h3⟩
 ·exact⟨[y,.cq],x,rfl,h2.w1.toC,.inl hx,h4⟩
 have he:PS.dd s id (s.av id)=some (sz,dd):=by unfold PS.dd;rw[bm rfl,h3]
 exact⟨[y,.ft sz dd],x,by simp[J0,snap,he],h2.toC,.inl hx,h4⟩
theorem se.put{s:PS}{id sz:Nat}{dd:List (List D)}{v w:V}{d:Option Nat}(h:se s id sz dd v):se (s.put d w) id sz dd v:=h.mono (by cases d<;>rfl) (by cases d<;>rfl)
def Kl(n:Nd)(out:List ByteArray):Bool:=(dn n.ins.length).all fun i=>hasB out (n.ins.getD i ⟨#[]⟩)
def n0:Nd:=⟨⟨#[]⟩,⟨0,[],[]⟩,[]⟩
def o9(out:List ByteArray)(b:ByteArray)(n:Nd):ByteArray:=if !hasB out n.n&&(Kl n out&&(isE b||strLt n.n b))then n.n else b
def Oa(ns:List Nd)(out:List ByteArray):ByteArray:=ns.foldl (o9 out) ⟨#[]⟩
def W9(ns:List Nd):Nat→List ByteArray→List ByteArray
 |0,out=>out
 |k+1,out=>if isE (Oa ns out)then out else W9 ns k (out++[Oa ns out])
def Hl(ns:List Nd):List ByteArray:=W9 ns (ns.length+1) []
def Sd(ns:List Nd)(out:List ByteArray):Nat:=(ns.filter fun n=> !hasB out n.n).length
theorem Ck{l:List ByteArray}{k:Nat}(h:k<l.length):(l.map nh)[k]? =some [.str (l.getD k ⟨#[]⟩)]:=by simp[h,nh,cd]
theorem Fe{l:List Nd}{k:Nat}(h:k<l.length):(l.map wz)[k]? =some [.str (l.getD k n0).n,.int ab (l.getD k n0).f.k,x6 (l.getD k n0).f.vs,lj (l.getD k n0).f.ls,nr (l.getD k n0).ins]:=by
 simp[h,wz,cd]
theorem a9w{l:List ByteArray}{s:ByteArray}{k:Nat}(h:k<l.length):hasB (l.take (k+1)) s=(hasB (l.take k) s||kf (l.getD k ⟨#[]⟩) s):=by
 unfold hasB;rw[fm,List.any_append];simp[h,cd]
theorem Hq(s:ByteArray):kf s s=true:=by simp[kf]
theorem Ow(l:List ByteArray)(a s:ByteArray):hasB (l++[a]) s=(hasB l s||kf a s):=by simp[hasB]
theorem auf(ns:List Nd)(out:List ByteArray):∀b,ns.foldl (o9 out) b=b∨∃n∈ns,ns.foldl (o9 out) b=n.n∧hasB out n.n=false:=by
 induction ns with
 |nil=>intro b;exact .inl rfl
 |cons n r ih=>
  intro b;simp only[qe];rcases ih (o9 out b n)with h|⟨m,hm,h1,h2⟩
  ·by_cases hc:(!hasB out n.n&&(Kl n out&&(isE b||strLt n.n b)))=true
   ·have e:o9 out b n=n.n:=by unfold o9;rw[bm hc]
    refine .inr ⟨n,by simp,by rw[h,e],?_⟩;simp only[cj]at hc;simpa using hc.1
   have e:o9 out b n=b:=by unfold o9;rw[al hc]
   exact .inl (by rw[h,e])
  exact .inr ⟨m,by simp[hm],h1,h2⟩
theorem ay5{α:Type}{p q:α→Bool}(h:∀m,p m=true→q m=true):∀l:List α,(l.filter p).length≤(l.filter q).length:=by
 intro l
 induction l with
 |nil=>simp
 |cons m r ih=>
  simp only[aaf];cases hp:p m
  ·cases hq:q m<;>simp<;>omega
  rw[h m hp];simp;omega
theorem alh{α:Type}{p q:α→Bool}(h:∀m,p m=true→q m=true){n:α}(hp:p n=false)(hq:q n=true):∀l:List α,n∈l→(l.filter p).length<(l.filter q).length:=by
 intro l hl
 induction l with
 |nil=>simp at hl
 |cons m r ih=>
  rcases dq.1 hl with rfl|hl
  ·have:=ay5 h r;simp only[aaf,hp,hq];simp;omega
  have:=ih hl;simp only[aaf];cases hp':p m
  ·cases hq':q m<;>simp<;>omega
  rw[h m hp'];simp;omega
theorem awm{ns:List Nd}{out:List ByteArray}(h:isE (Oa ns out)=false):Sd ns (out++[Oa ns out])<Sd ns out:=by
 rcases auf ns out ⟨#[]⟩with h0|⟨n,hn,h1,h2⟩
 ·have:Oa ns out=⟨#[]⟩:=h0;rw[this]at h;simp[isE]at h
 have hb:Oa ns out=n.n:=h1;rw[hb];unfold Sd;refine alh (n:=n) (fun m hm=>?_) ?_ ?_ ns hn
 ·rw[Ow]at hm;cases hx:hasB out m.n
  ·rfl
  rw[hx]at hm;simp at hm
 ·rw[Ow,Hq];simp
 rw[h2];rfl
section
variable{P:Program}(A:Pr P)
theorem aqe(l:List ByteArray)(s:ByteArray)(hl:l.length≤2^40):iq P A.tn [nr l,.str s] (.bool (hasB l s)):=by
 refine du A.mo A.afi (by simp) ?_;show ko P Tf (lg _ _) _;simp only[Tf,nr,go_sem];refine fh l.length (fun k s'=>s'.tmp 0= .d (.ft 1 (l.map nh))∧s'.tmp 1= .d (.str s)∧s'.tmp 5= .d (.int ab k)∧hasB (l.take k) s=false) ?_ ?_
 ·simp only[go_sem,aa,reduceCtorEq];simp[hasB]
 rintro k s' hk ⟨f0,f1,f5,ha⟩;by_cases hlt:(k:Int)<l.length
 ·have df:k<l.length:=by omega
  have wk:=cu ((k:Int)+1) (by omega) (by omega);simp only[go_sem,aa,reduceCtorEq,f0,f1,f5,ag,hlt,Ck df,bp,aq];cases c:((l.getD k ⟨#[]⟩).toList==s.toList)
  ·simp only[go_sem,aa,reduceCtorEq,f0,f1,f5,wk,df];refine⟨by simp,?_⟩;rw[a9w df,ha];exact c
  have:hasB l s=true:=by
   unfold hasB;rw[A9];refine⟨l[k],cy df,?_⟩
   have e:l.getD k ⟨#[]⟩=l[k]:=by simp[cd,df]
   rw[e]at c;exact c
  simp only[go_sem,aa,this]
 have:k=l.length:=by omega
 subst this;rw[dt]at ha;simp only[go_sem,aa,reduceCtorEq,f0,f5,ag,hlt,ha]
theorem avs(n:Nd)(out:List ByteArray)(hl:n.ins.length≤2^40)(ho:out.length≤2^40):iq P A.Ew [.agg (wz n),nr out] (.bool (Kl n out)):=by
 refine du A.mo A.a7s (by simp) ?_;show ko P (P7 A.tn) (lg _ _) _;have hh:=fun s=>aqe A out s ho;simp only[nr]at hh;simp only[P7,wz,nr,x6,lj,go_sem,ae]
 refine fh n.ins.length (fun k s'=>s'.tmp 1= .d (.ft 1 (out.map nh))∧s'.tmp 2= .ic 2 (s'.av 2) 0∧s'.da 2=some (.loc [.d (.str n.n),.d (.int ab n.f.k),.d (.ft 3 (n.f.vs.map cVl)),.d (.ft 1 (n.f.ls.map fun l=>[vz l])),.d (.ft 1 (n.ins.map nh))])∧s'.tmp 5= .d (.int ab k)∧
  ∀i,i<k→hasB out (n.ins.getD i ⟨#[]⟩)=true) ?_ ?_
 ·simp only[go_sem,aa];simp
 rintro k s' hk ⟨f1,f2,b2,f5,hI⟩;by_cases hlt:(k:Int)<n.ins.length
 ·have df:k<n.ins.length:=by omega
  have wk:=cu ((k:Int)+1) (by omega) (by omega);simp only[go_sem,aa,ae,reduceCtorEq,f1,f2,b2,f5,ag,hlt,Ck df,bp,aq];refine il (hh _) ?_;cases c:hasB out (n.ins.getD k ⟨#[]⟩)
  ·have:Kl n out=false:=all_false df c;simp only[go_sem,aa,this]
  simp only[go_sem,aa,reduceCtorEq,f1,f2,b2,f5,wk,df];exact⟨by simp,qf hI c⟩
 have:k=n.ins.length:=by omega
 subst this;have:Kl n out=true:=all_true hI;simp only[go_sem,aa,ae,reduceCtorEq,f2,b2,f5,ag,hlt,this]
theorem aw4(t:Tr)(hn:t.ns.length≤1000)(hi:∀n∈t.ns,n.ins.length≤2^40):iq P A.Cp [.agg (r8 t)] (nr (Hl t.ns)):=by
 have main:iq P A.Cp [.agg (r8 t)] (if(Hl t.ns).map nh=[]then .cq else .ft 1 ((Hl t.ns).map nh)):=by
  refine du A.mo A.a7v (by simp) ?_;show ko P (Pa A.tn A.Ew) (lg _ _) _;simp only[Pa,r8,jn,l7,go_sem,ae]
  have h0:Sd t.ns []≤t.ns.length:=by unfold Sd;exact zg _ _
  refine fh t.ns.length (fun i s'=>∃out:List ByteArray,s'.base=0∧s'.tmp 1= .ic 1 (s'.av 1) 0∧s'.da 1=some (.loc [.d (.ft 2 (t.ps.map tx)),.d (.ft 5 (t.ns.map wz))])∧se s' 47 1 (out.map nh) (s'.tmp 3)∧
   Sd t.ns out+i≤t.ns.length∧out.length=i∧W9 t.ns (t.ns.length+1-i) out=Hl t.ns) ?_ ?_
  ·simp only[go_sem,aa];refine⟨[],se.nil,h0,rfl,rfl⟩
  rintro i s' Ds ⟨out,eb,f1,b1,acc,ho,hol,hor⟩;simp only[go_sem]
  refine fh t.ns.length (fun k s'=>s'.base=0∧s'.tmp 1= .ic 1 (s'.av 1) 0∧s'.da 1=some (.loc [.d (.ft 2 (t.ps.map tx)),.d (.ft 5 (t.ns.map wz))])∧se s' 47 1 (out.map nh) (s'.tmp 3)∧
   s'.tmp 5= .d (.int ab k)∧s'.tmp 4= .d (.str ((t.ns.take k).foldl (o9 out) ⟨#[]⟩))) ?_ ?_
  ·simp only[go_sem,aa,eb,f1,b1];exact⟨acc.mono rfl rfl,by simp⟩
  clear eb f1 b1 acc;rintro k s2 hk ⟨eb,f1,b1,acc,f5,f4⟩;by_cases hlt:(k:Int)<t.ns.length
  ·have df:k<t.ns.length:=by omega
   have wk:=cu ((k:Int)+1) (by omega) (by omega);have hg:=Fe df
   have hgn:t.ns.getD k n0=t.ns[k]:=by simp[cd,df]
   have hni:=hi _ (cy df)
   have re:(t.ns.take (k+1)).foldl (o9 out) ⟨#[]⟩=o9 out ((t.ns.take k).foldl (o9 out) ⟨#[]⟩) t.ns[k]:=by
    rw[fm,mc];simp[df]
   rw[hgn]at hg;have hh:=aqe A out t.ns[k].n (by omega);have hr:=avs A t.ns[k] out hni (by omega)
   generalize(t.ns.take k).foldl (o9 out) ⟨#[]⟩=Du at*
   generalize t.ns[k]=n at*
   simp only[nr,wz,x6,lj]at hh hr hg;simp only[go_sem,aa,ae,ah,reduceCtorEq,eb,f1,b1,f5,ag,hlt,hg,bp,aq];refine(acc.mono (by simp[ak]) (by simp[ak])).aEm hh rfl ?_;cases c1:hasB out n.n
   ·simp only[go_sem,aa,ae];refine(acc.mono (by simp[ak]) (by simp[ak])).aEl hr rfl ?_;cases c2:Kl n out
    ·have e:o9 out Du n=Du:=by unfold o9;rw[c1,c2];rfl
     simp only[go_sem,aa,reduceCtorEq,f1,b1,f4,f5,wk,df,re,e];exact⟨acc.mono (by simp[ak]) (by simp[ak]),by simp⟩
    cases c3:isE Du
    ·have c3':=c3;unfold isE at c3';cases c4:strLt n.n Du
     ·have c4':=c4;unfold strLt at c4'
      have e:o9 out Du n=Du:=by unfold o9;rw[c1,c2,c3,c4];rfl
      simp only[go_sem,aa,ae,ah,reduceCtorEq,f1,b1,f4,f5,c3',c4',wk,df,re,e];exact⟨acc.mono (by simp[ak]) (by simp[ak]),by simp⟩
     have c4':=c4;unfold strLt at c4'
     have e:o9 out Du n=n.n:=by unfold o9;rw[c1,c2,c3,c4];rfl
     simp only[go_sem,aa,ae,ah,reduceCtorEq,f1,b1,f4,f5,c3',c4',wk,df,re,e];exact⟨acc.mono (by simp[ak]) (by simp[ak]),by simp⟩
    have c3':=c3;unfold isE at c3'
    have e:o9 out Du n=n.n:=by unfold o9;rw[c1,c2,c3];rfl
    simp only[go_sem,aa,ae,ah,reduceCtorEq,f1,b1,f4,f5,c3',wk,df,re,e];exact⟨acc.mono (by simp[ak]) (by simp[ak]),by simp⟩
   have e:o9 out Du n=Du:=by unfold o9;rw[c1];rfl
   simp only[go_sem,aa,reduceCtorEq,f1,b1,f4,f5,wk,df,re,e];exact⟨acc.mono (by simp[ak]) (by simp[ak]),by simp⟩
  have:k=t.ns.length:=by omega
  subst this;rw[dt]at f4
  have hfu:t.ns.length+1-i=(t.ns.length-i)+1:=by omega
  rw[hfu]at hor;have hbe:t.ns.foldl (o9 out) ⟨#[]⟩=Oa t.ns out:=rfl;rw[hbe]at f4;simp only[go_sem,aa,ae,reduceCtorEq,eb,f1,b1,f4,f5,ag,hlt];cases c5:isE (Oa t.ns out)
  ·have c5':=c5;unfold isE at c5';have hop:=awm c5;rw[W9,c5]at hor;simp only[go_sem,aa,dh,f4,c5'];refine s5 (dd:=out.map nh) (ys:=[nh (Oa t.ns out)]) (osz:=some 1) ?_ ?_ rfl (by simp[nh,D.one]) ?_ (by simp) ?_
   ·simp only[go_sem,aa];exact acc.mono (by simp[ak]) (by simp[ak])
   ·simp only[go_sem,aa,qm];rfl
   ·simp only[ag,ca,ed];omega
   intro s3 g;have Fv:=g.acc (by simp);rw[g.tmp,ck]at Fv;simp only[fj]at Fv;have gv:=g.av 1 (by simp)
   have gb:s3.da 1=s2.da 1:=by rw[g.da];simp[ak]
   simp only[go_sem,aa,g.tmp,f1,g.base,gb,gv,b1];refine⟨by omega,out++[Oa t.ns out],?_,by omega,by simp[hol],?_⟩
   ·rw[fu];exact Fv.mono rfl rfl
   have e2:t.ns.length+1-(i+1)=t.ns.length-i:=by omega
   rw[e2];exact hor
  have c5':=c5;unfold isE at c5';rw[W9,c5]at hor;have hor:out=Hl t.ns:=hor;subst hor;simp only[go_sem,aa,c5'];rcases acc with ⟨a1,a2⟩|⟨a1,a2,a3⟩
  ·simp only[go_sem,a1,a2]
  rw[al a1,a2];simp only[go_sem,a3,ag]
 refine main.M7 fun G v hv=>?_;split at hv
 ·rename_i he;unfold nr;rw[he];exact Ku G v hv
 exact hv
end
def St(ns:List Nd)(s:ByteArray):Bool:=ns.any fun n=>kf n.n s
def Wn:List Nd→ByteArray→Int→Int
 |[],_,_=> -1
 |n::r,s,i=>if kf n.n s then i else Wn r s (i+1)
theorem asf(ns:List Nd)(s:ByteArray):∀i:Int,0≤i→(Wn ns s i<0↔St ns s=false):=by
 induction ns with
 |nil=>intro i _;simp[Wn,St]
 |cons n r ih=>
  intro i hi;unfold Wn St;cases h:kf n.n s
  ·simp only[fk,ee,aK7,h,L8];exact ih (i+1) (by omega)
  simp[h];omega
theorem aob{ns:List Nd}{s:ByteArray}{k:Nat}(h:k<ns.length):Wn (ns.drop k) s k=if kf ns[k].n s then(k:Int)else Wn (ns.drop (k+1)) s ((k+1:Nat):Int):=by
 rw[jq h];rfl
def zw(pr:List (List Sp)→Bool)(t:Tr)(i:Nat):Bool:=
 xf (t.ns.getD i n0).n&&(ui (t.ns.map Nd.n) i&&(tj pr (t.ns.getD i n0).f&&(((t.ns.getD i n0).ins.length:Int)==kIn (t.ns.getD i n0).f.k.toNat&&
  (((dn (t.ns.getD i n0).ins.length).all fun k=>St t.ns ((t.ns.getD i n0).ins.getD k ⟨#[]⟩))&&(p8 pr (t.ns.getD i n0).f t.ps).2==0))))
def yf(pr:List (List Sp)→Bool)(t:Tr):Bool:=
 yd t.ps&&(decide (t.ns.length≤20)&&((dn t.ns.length).all (zw pr t)&&((Hl t.ns).length:Int)==t.ns.length))
def M3(t:Tr):Prop:=t.ns.length≤1000∧∀n∈t.ns,n.ins.length≤2^30∧n.f.vs.length≤2^30∧n.f.ls.length≤2^30∧∀l∈n.f.ls,l.length≤2^30
section
variable{P:Program}(A:Pr P)
theorem akx(t:Tr)(s:ByteArray)(hl:t.ns.length≤2^40):iq P A.x7 [.agg (r8 t),.str s] (.int ab (Wn t.ns s 0)):=by
 refine du A.mo A.a7w (by simp) ?_;show ko P Pb (lg _ _) _;simp only[Pb,r8,jn,l7,go_sem,de,ae];refine fh t.ns.length (fun k s'=>s'.tmp 1= .d (.str s)∧s'.tmp 2= .ic 2 (s'.av 2) 0∧s'.da 2=some (.loc [.d (.ft 2 (t.ps.map tx)),.d (.ft 5 (t.ns.map wz))])∧s'.tmp 5= .d (.int ab k)∧Wn (t.ns.drop k) s k=Wn t.ns s 0) ?_ ?_
 ·simp only[go_sem,aa,aL7,a1m]
 rintro k s' hk ⟨f1,f2,b2,f5,hI⟩;by_cases hlt:(k:Int)<t.ns.length
 ·have df:k<t.ns.length:=by omega
  have wk:=cu ((k:Int)+1) (by omega) (by omega);have hg:=Fe df
  have hgn:t.ns.getD k n0=t.ns[k]:=by simp[cd,df]
  rw[hgn]at hg;rw[aob df]at hI;simp only[go_sem,aa,de,ae,ah,reduceCtorEq,f1,f2,b2,f5,ag,hlt,hg,bp,aq];cases c:(t.ns[k].n.toList==s.toList)
  ·unfold kf at hI;rw[c]at hI;simp only[go_sem,aa,de,reduceCtorEq,f1,f2,b2,f5,wk,df];refine⟨by simp,?_⟩;simpa using hI
  unfold kf at hI;rw[c]at hI;simp only[dj]at hI;simp only[go_sem,aa,de,f5,hI]
 have:k=t.ns.length:=by omega
 subst this;rw[am2]at hI;simp only[Wn]at hI;simp only[go_sem,aa,de,ae,reduceCtorEq,f2,b2,f5,ag,hlt,←hI]
theorem a96(t:Tr)(hs:M3 t):iq P A.Co [.agg (r8 t)] (.bool (yf pg t)):=by
 refine du A.mo A.a7u (by simp) ?_;show ko P (P9 A.ow A.rv A.x8 A.Dl A.x7 A.zy A.Cp) (lg _ _) _;obtain⟨hs1,hs2⟩:=hs;have hrp:=Vo A t.ps;simp only[jn]at hrp;unfold yf;simp only[P9,r8,jn,l7,go_sem,aa,ae,ah];refine ff hrp ?_;cases c1:yd t.ps
 ·simp only[go_sem,aa,dz]
 by_cases c2:(20:Int)<t.ns.length
 ·have c2':¬t.ns.length≤20:=by omega
  simp only[go_sem,aa,ae,reduceCtorEq,ag,c2,c2',dz]
 have c2':t.ns.length≤20:=by omega
 simp only[go_sem,aa,ae,reduceCtorEq,ag,c2,c2'];refine fh t.ns.length (fun i s'=>s'.base=0∧s'.tmp 1= .ic 1 (s'.av 1) 0∧s'.da 1=some (.loc [.d (.ft 2 (t.ps.map tx)),.d (.ft 5 (t.ns.map wz))])∧s'.tmp 3= .d (.int ab i)∧∀i',i'<i→zw pg t i'=true) ?_ ?_
 ·simp only[go_sem,aa];simp
 rintro i s' hi ⟨eb,f1,b1,f3,hI⟩;by_cases hlt:(i:Int)<t.ns.length
 ·have df:i<t.ns.length:=by omega
  have wi:=cu ((i:Int)+1) (by omega) (by omega);have hg:=Fe df
  have hgn:t.ns.getD i n0=t.ns[i]:=by simp[cd,df]
  obtain⟨q1,q2,q3,q4⟩:=hs2 _ (cy df);rw[hgn]at hg
  have Bc:zw pg t i=(xf t.ns[i].n&&(ui (t.ns.map Nd.n) i&&(tj pg t.ns[i].f&&((t.ns[i].ins.length:Int)==kIn t.ns[i].f.k.toNat&&(((dn t.ns[i].ins.length).all fun k=>St t.ns (t.ns[i].ins.getD k ⟨#[]⟩))&&(p8 pg t.ns[i].f t.ps).2==0))))):=by
   unfold zw;rw[hgn]
  have no:zw pg t i=false→((dn t.ns.length).all (zw pg t)&&((Hl t.ns).length:Int)==t.ns.length)=false:=fun h=>by rw[all_false df h,dz]
  have aB4:=a97 A t.ns[i].f q2 q3 q4;have Tl:=ady A t.ns[i].f t.ps q2 q3 q4;have Tm:=ahj A t.ns[i].n
  have ala:∀h:0<i,ui (t.ns.map Nd.n) i=strLt t.ns[i-1].n t.ns[i].n:=fun h=>by
   unfold ui
   have:i-1<t.ns.length:=by omega
   have h0:i≠0:=by omega
   simp[h0,this,df]
  have hg':∀h:0<i,(t.ns.map wz)[i-1]? =some [.str t.ns[i-1].n,.int ab t.ns[i-1].f.k,x6 t.ns[i-1].f.vs,lj t.ns[i-1].f.ls,nr t.ns[i-1].ins]:=fun h=>by
   have:i-1<t.ns.length:=by omega
   simp[this,wz]
  generalize hnn:t.ns[i]=n at*
  simp only[x6,lj,nr]at hg hg';simp only[cFt,x6,lj]at aB4 Tl;simp only[jn,a6c]at Tl;simp only[go_sem,aa,ae,ah,reduceCtorEq,eb,f1,b1,f3,ag,hlt,hg,bp,aq];refine ff Tm ?_
  refine Xs (fun s'=>s'.base=0∧s'.tmp 1= .ic 1 (s'.av 1) 0∧s'.da 1=some (.loc [.d (.ft 2 (t.ps.map tx)),.d (.ft 5 (t.ns.map wz))])∧s'.tmp 3= .d (.int ab i)∧s'.tmp 4= .ic 4 (s'.av 4) 0∧
   s'.da 4=some (.loc [.d (.str n.n),.d (.int ab n.f.k),.d (.ft 3 (n.f.vs.map cVl)),.d (.ft 1 (n.f.ls.map fun l=>[vz l])),.d (.ft 1 (n.ins.map nh))])∧
   s'.tmp 65= .d (.bool !(xf n.n&&(ui (t.ns.map Nd.n) i&&(tj pg n.f&&(n.ins.length:Int)==kIn n.f.k.toNat))))) ?_ ?_
  ·cases d1:xf n.n
   ·simp only[go_sem,aa,f1,b1,f3,dz]
   by_cases d2:0<i
   ·have d2':(0:Int)<i:=by omega
    have w1:=cu ((i:Int)-1) (by omega) (by omega)
    have z:(0:Int)≤(i:Int)-1:=by omega
    rw[ala d2];cases d3:strLt t.ns[i-1].n n.n
    ·have d3':=d3;unfold strLt at d3';simp only[go_sem,aa,ae,ah,reduceCtorEq,f1,b1,f3,d2',w1,Is d2',hg' d2,z,d3',dz,qo]
    have d3':=d3;unfold strLt at d3';simp only[go_sem,aa,ae,ah,reduceCtorEq,f1,b1,f3,d2',w1,Is d2',hg' d2,z,d3'];refine ff aB4 ?_;cases d4:tj pg n.f
    ·simp only[go_sem,aa,f1,b1,f3,dz]
    have hk:0≤n.f.k∧n.f.k<14:=by
     have:=d4;unfold tj at this;simp only[cj,decide_eq_true_eq]at this;exact this.1
    have hkc:((n.f.k.toNat:Nat):Int)=n.f.k:=by omega
    have hin:=adz A (k:=n.f.k.toNat) (by omega);rw[hkc]at hin;simp only[go_sem,aa,ae,ah,ag];refine ff hin ?_;simp only[go_sem,aa,reduceCtorEq,f1,b1,f3,bne]
   have d2':¬(0:Int)<i:=by omega
   have hr0:ui (t.ns.map Nd.n) i=true:=by unfold ui;simp;omega
   rw[hr0];simp only[go_sem,aa,ae,ah,reduceCtorEq,f3,d2'];refine ff aB4 ?_;cases d4:tj pg n.f
   ·simp only[go_sem,aa,f1,b1,f3,dz]
   have hk:0≤n.f.k∧n.f.k<14:=by
    have:=d4;unfold tj at this;simp only[cj,decide_eq_true_eq]at this;exact this.1
   have hkc:((n.f.k.toNat:Nat):Int)=n.f.k:=by omega
   have hin:=adz A (k:=n.f.k.toNat) (by omega);rw[hkc]at hin;simp only[go_sem,aa,ae,ah,ag];refine ff hin ?_;simp only[go_sem,aa,reduceCtorEq,f1,b1,f3,bne]
  clear eb f1 b1 f3;rintro s3 ⟨eb,f1,b1,f3,f4,b4,f65⟩;cases e1:(xf n.n&&(ui (t.ns.map Nd.n) i&&(tj pg n.f&&(n.ins.length:Int)==kIn n.f.k.toNat)))
  ·rw[e1]at f65
   have:zw pg t i=false:=by
    rw[Bc];revert e1;cases xf n.n<;>cases ui (t.ns.map Nd.n) i<;>cases tj pg n.f<;>cases((n.ins.length:Int)==kIn n.f.k.toNat)<;>simp
   simp only[go_sem,f65,no this]
  rw[e1]at f65;simp only[cj]at e1;obtain⟨e1a,e1b,e1c,e1d⟩:=e1;rw[e1a,e1b,e1c,e1d]at Bc;simp only[uh]at Bc;simp only[go_sem,eb,f65]
  refine fh n.ins.length (fun k s'=>s'.base=0∧s'.tmp 1= .ic 1 (s'.av 1) 0∧s'.da 1=some (.loc [.d (.ft 2 (t.ps.map tx)),.d (.ft 5 (t.ns.map wz))])∧s'.tmp 3= .d (.int ab i)∧s'.tmp 4= .ic 4 (s'.av 4) 0∧
   s'.da 4=some (.loc [.d (.str n.n),.d (.int ab n.f.k),.d (.ft 3 (n.f.vs.map cVl)),.d (.ft 1 (n.f.ls.map fun l=>[vz l])),.d (.ft 1 (n.ins.map nh))])∧s'.tmp 5= .d (.int ab k)∧∀k',k'<k→St t.ns (n.ins.getD k' ⟨#[]⟩)=true) ?_ ?_
  ·simp only[go_sem,aa,f1,b1,f3,f4,b4];simp
  clear eb f1 b1 f3 f4 b4;rintro k s4 hk ⟨eb,f1,b1,f3,f4,b4,f5,hK⟩;by_cases Gt:(k:Int)<n.ins.length
  ·have qg:k<n.ins.length:=by omega
   have wk:=cu ((k:Int)+1) (by omega) (by omega);have hix:=akx A t (n.ins.getD k ⟨#[]⟩) (by omega);have axn:=asf t.ns (n.ins.getD k ⟨#[]⟩) 0 (by omega);simp only[r8,jn,l7]at hix;simp only[go_sem,aa,ae,reduceCtorEq,eb,f1,b1,f4,b4,f5,ag,Gt,Ck qg,bp,aq];refine il hix ?_;cases c5:St t.ns (n.ins.getD k ⟨#[]⟩)
   ·have hn:=axn.2 c5
    have:zw pg t i=false:=by rw[Bc,all_false qg c5,dz]
    simp only[go_sem,aa,reduceCtorEq,hn,no this]
   have hn:¬Wn t.ns (n.ins.getD k ⟨#[]⟩) 0<0:=fun h=>by rw[axn.1 h]at c5;cases c5
   simp only[go_sem,aa,reduceCtorEq,f1,b1,f3,f4,b4,f5,hn,wk,qg];exact⟨by simp,qf hK c5⟩
  have:k=n.ins.length:=by omega
  subst this;rw[all_true hK,uh]at Bc;simp only[go_sem,aa,ae,ah,reduceCtorEq,eb,f1,b1,f3,f4,b4,f5,ag,Gt];refine il Tl ?_;cases c6:((p8 pg n.f t.ps).2==0)
  ·have c6':((p8 pg n.f t.ps).2 !=0)=true:=by unfold bne;rw[c6];rfl
   have:zw pg t i=false:=by rw[Bc,c6]
   simp only[go_sem,aa,reduceCtorEq,c6',no this]
  have c6':((p8 pg n.f t.ps).2 !=0)=false:=by unfold bne;rw[c6];rfl
  simp only[go_sem,aa,reduceCtorEq,f1,b1,f3,c6',wi,df];exact⟨by simp,qf hI (by rw[Bc,c6])⟩
 have:i=t.ns.length:=by omega
 subst this;rw[all_true hI]
 have ho:=aw4 A t (by omega) (fun n hn=>by have:=(hs2 n hn).1;omega)
 simp only[r8,jn,l7,nr]at ho;simp only[go_sem,aa,ae,reduceCtorEq,eb,f1,b1,f3,ag,hlt];refine ff ho ?_;simp only[go_sem,aa,ae,reduceCtorEq,f1,b1,ag]
end
def Wk(x y:D):Prop:=∀G v,gj G x v→gj G y v
theorem Wk.refl(x:D):Wk x x:=fun _ _ h=>h
theorem Wk.trans{x y z:D}(h:Wk x y)(k:Wk y z):Wk x z:=fun G v hv=>k G v (h G v hv)
theorem Wk.cq{sz:Nat}:Wk .cq (.ft sz []):=Ku
theorem Wk.agg{xs ys:List D}(hl:xs.length=ys.length)(h:∀(i:Nat) (x y:D),xs[i]? =some x→ys[i]? =some y→Wk x y):Wk (.agg xs) (.agg ys):=by
 intro G v hv
 cases hv with
 | @agg _ vs k1 k2=>
  refine .agg (by omega) fun i y u hy hu=>?_
  have hi:i<xs.length:=by have:=(aw.1 hy).1;omega
  exact h i xs[i] y (ax hi) hy G u (k2 i _ u (ax hi) hu)
theorem Wk.ft{sz:Nat}{xs ys:List (List D)}(hl:xs.length=ys.length)(h:∀(i:Nat) (a b:List D),xs[i]? =some a→ys[i]? =some b→a.length=b.length∧∀(j:Nat) (x y:D),a[j]? =some x→b[j]? =some y→Wk x y):Wk (.ft sz xs) (.ft sz ys):=by
 intro G v hv
 cases hv with
 |V6=>
  have:ys=[]:=ix (by simpa using hl.symm);subst this;exact .V6
 |Xg=>
  have:ys=[]:=ix (by simpa using hl.symm);subst this;exact .Xg
 | @ft _ _ b o c hc hs h1 h2=>
  rw[hl]at hc h1⊢
  have get:∀(i:Nat) (e:List D),ys[i]? =some e→∃a:List D,xs[i]? =some a∧a.length=e.length:=fun i e he=>by
   have hi:i<xs.length:=by have:=(aw.1 he).1;omega
   exact⟨xs[i],ax hi,(h i _ e (ax hi) he).1⟩
  refine .ft hc (fun i e he=>?_) h1 (fun i e j x u he hx hu=>?_)
  ·obtain⟨a,ha,hal⟩:=get i e he;rw[←hal];exact hs i a ha
  obtain⟨a,ha,hal⟩:=get i e he
  have hj:j<a.length:=by have:=(aw.1 hx).1;omega
  exact(h i a e ha he).2 j a[j] x (ax hj) hx G u (h2 i a j _ u ha (ax hj) hu)
def yc(sz:Nat)(dd:List (List D)):D:=if dd=[]then .cq else .ft sz dd
theorem Jz{sz:Nat}{dd:List (List D)}:Wk (yc sz dd) (.ft sz dd):=by
 unfold yc;split
 ·rename_i h;rw[h];exact Wk.cq
 exact Wk.refl _
theorem se.Xv{s:PS}{id sz:Nat}{dd:List (List D)}{v:V}(h:se s id sz dd v):Xv s v=some (yc sz dd):=by
 rcases h with ⟨rfl,rfl⟩|⟨h1,rfl,h3⟩
 ·rfl
 unfold yc;rw[al h1];simp only[PI.Xv,Pv,PS.dd,h3,dj,aKx]
theorem se.cells{s:PS}{id sz:Nat}{dd:List (List D)}{v:V}(h:se s id sz dd v):∃c,v.cells s=some [c]∧c.toV=v∧c.one s=true∧Pv s c=some (yc sz dd,if dd=[]then[]else[id]):=by
 rcases h with ⟨rfl,rfl⟩|⟨h1,rfl,h3⟩
 ·exact⟨.d .cq,rfl,rfl,rfl,by simp[Pv,yc]⟩
 have he:PS.dd s id (s.av id)=some (sz,dd):=by unfold PS.dd;rw[bm rfl,h3]
 have hn:=ajd he;refine⟨.ref id (s.av id) dd.length,by simp[V.cells,hn],rfl,by simp[C.one,V.live,hn],by simp[Pv,he,yc,h1]⟩
section
variable{P:Program}(A:Pr P)
theorem aqk(l:List Pm)(hl:l.length*24≤2^47):iq P A.Bm [jn l] (jn l):=by
 have main:iq P A.Bm [jn l] (yc 2 (l.map tx)):=by
  refine du A.mo A.a5l (by simp) ?_;show ko P Nx (lg _ _) _;simp only[Nx,jn,go_sem];refine fh l.length (fun i s'=>s'.base=0∧s'.tmp 0= .d (.ft 2 (l.map tx))∧s'.tmp 4= .d (.int ab i)∧se s' 24 2 ((l.take i).map tx) (s'.tmp 3)) ?_ ?_
  ·simp only[go_sem,aa,reduceCtorEq];exact se.nil
  rintro i s' hi ⟨eb,f0,f4,acc⟩;by_cases hlt:(i:Int)<l.length
  ·have df:i<l.length:=by omega
   have wi:=cu ((i:Int)+1) (by omega) (by omega);simp only[go_sem,aa,ae,ah,reduceCtorEq,dh,eb,f0,f4,ag,hlt,Yu df,bp,aq];refine s5 (dd:=(l.take i).map tx) (ys:=[tx l[i]]) (osz:=some 2) ?_ ?_ rfl (by simp[tx,D.one]) ?_ (by simp) ?_
   ·simp only[go_sem,aa];exact acc.mono (by simp[ak]) (by simp[ak])
   ·simp only[go_sem,aa,qm];rfl
   ·simp only[ag,ca,ed,dw];omega
   intro s3 g;have Fv:=g.acc (by simp);rw[g.tmp,ck]at Fv;simp only[fj]at Fv;simp only[go_sem,aa,reduceCtorEq,g.tmp,f0,f4,wi,g.base,df];refine⟨by simp,?_⟩
   have e1:(l.take (i+1)).map tx=(l.take i).map tx++[tx l[i]]:=by
    rw[fm,fu];simp[df]
   rw[e1];exact Fv.mono rfl rfl
  have:i=l.length:=by omega
  subst this;rw[dt]at acc;simp only[go_sem,aa,reduceCtorEq,eb,f0,f4,ag,hlt];have:=acc.Xv;rcases acc with ⟨a1,a2⟩|⟨a1,a2,a3⟩
  ·simp only[a1,a2,yc,dj]
  simp only[yc,al a1,a2,a3,dj]
 exact main.M7 Jz
def cLp(l:List Sp):List D:=[yc 2 (l.map Bs)]
theorem api(ls:List (List Sp)):Wk (yc 1 (ls.map cLp)) (lj ls):=by
 refine Jz.trans (Wk.ft (by simp) fun i a b ha hb=>?_);simp only[cw,ao]at ha hb;obtain⟨l,hl,rfl⟩:=ha;obtain⟨l',hl',rfl⟩:=hb;rw[hl]at hl'
 injection hl' with hl'
 subst hl';refine⟨rfl,fun j x y hx hy=>?_⟩
 match j with
 |0=>simp only[cLp,dm,aj]at hx hy;subst hx hy;exact Jz
 |j+1=>simp[cLp]at hx
theorem amw(ls:List (List Sp))(h1:ls.length≤2^30)(h2:∀l∈ls,l.length≤2^30):iq P A.Cu [.agg [lj ls]] (lj ls):=by
 have main:iq P A.Cu [.agg [lj ls]] (yc 1 (ls.map cLp)):=by
  refine du A.mo A.a8f (by simp) ?_;show ko P Pq (lg _ _) _;simp only[Pq,lj,go_sem];refine fh ls.length (fun i s'=>s'.base=0∧s'.tmp 1= .ic 1 (s'.av 1) 0∧s'.da 1=some (.loc [.d (.ft 1 (ls.map fun l=>[vz l]))])∧s'.tmp 4= .d (.int ab i)∧se s' 38 1 ((ls.take i).map cLp) (s'.tmp 3)) ?_ ?_
  ·simp only[go_sem,aa];exact se.nil
  rintro i s' hi ⟨eb,f1,b1,f4,acc⟩;by_cases hlt:(i:Int)<ls.length
  ·have df:i<ls.length:=by omega
   have wi:=cu ((i:Int)+1) (by omega) (by omega);have hgi:=Fc df;have hli:=h2 _ (cy df);simp only[go_sem,aa,reduceCtorEq,eb,f1,b1,f4,ag,hlt]
   refine fh ls[i].length (fun k s'=>s'.base=0∧s'.tmp 1= .ic 1 (s'.av 1) 0∧s'.da 1=some (.loc [.d (.ft 1 (ls.map fun l=>[vz l]))])∧s'.tmp 4= .d (.int ab i)∧se s' 38 1 ((ls.take i).map cLp) (s'.tmp 3)∧
    s'.tmp 6= .d (.int ab k)∧se s' 34 2 ((ls[i].take k).map Bs) (s'.tmp 5)) ?_ ?_
   ·simp only[go_sem,aa,f1,b1,f4];exact⟨acc.mono rfl rfl,se.nil⟩
   clear eb f1 b1 f4 acc;rintro k s2 hk ⟨eb,f1,b1,f4,acc,f6,ad1⟩;by_cases Gt:(k:Int)<ls[i].length
   ·have qg:k<ls[i].length:=by omega
    have wk:=cu ((k:Int)+1) (by omega) (by omega);simp only[go_sem,aa,ae,reduceCtorEq,dh,eb,f1,b1,f4,f6,ag,Gt,hgi,D8 qg,bp,aq];refine s5 (dd:=(ls[i].take k).map Bs) (ys:=[Bs (ls[i].getD k (0,0))]) (osz:=some 2) ?_ ?_ rfl (by simp[Bs,D.one]) ?_ (by simp) ?_
    ·simp only[go_sem,aa];exact ad1.mono (by simp[ak]) (by simp[ak])
    ·simp only[go_sem,aa,qm];rfl
    ·simp only[ag,ca,ed,dw];omega
    intro s3 g;have Fv:=g.acc (by simp);rw[g.tmp,ck]at Fv;simp only[fj]at Fv;have gv:=g.av 1 (by simp)
    have gb:s3.da 1=s2.da 1:=by rw[g.da];simp[ak]
    have gv':=g.av 38 (by simp)
    have gb':s3.da 38=s2.da 38:=by rw[g.da];simp[ak]
    simp only[go_sem,aa,reduceCtorEq,g.tmp,f1,f4,f6,wk,g.base,qg,gv,gb,b1];refine⟨acc.mono (by simp[gv',ak]) gb',by simp,?_⟩
    have e1:(ls[i].take (k+1)).map Bs=(ls[i].take k).map Bs++[Bs (ls[i].getD k (0,0))]:=by
     rw[fm,fu];simp[qg,cd]
    rw[e1];exact Fv.mono rfl rfl
   have:k=ls[i].length:=by omega
   subst this;rw[dt]at ad1
   have e1:(ls.take (i+1)).map cLp=(ls.take i).map cLp++[cLp ls[i]]:=by
    rw[fm,fu];simp[df]
   rcases ad1 with ⟨a1,a2⟩|⟨a1,a2,a3⟩
   ·have hc:cLp ls[i]=[.cq]:=by unfold cLp yc;rw[bm a1]
    simp only[go_sem,aa,reduceCtorEq,dh,eb,f1,b1,f4,f6,ag,Gt,hgi,bp,aq,a2];refine s5 (dd:=(ls.take i).map cLp) (ys:=[cLp ls[i]]) (osz:=some 1) ?_ ?_ rfl (by rw[hc];rfl) ?_ (by simp) ?_
    ·simp only[go_sem,aa];exact acc.mono (by simp[ak]) (by simp[ak])
    ·simp only[go_sem,aa,qm,hc]
    ·simp only[ag,ca,ed,dw];omega
    intro s3 g;have Fv:=g.acc (by simp);rw[g.tmp,ck]at Fv;simp only[fj]at Fv;have gv:=g.av 1 (by simp)
    have gb:s3.da 1=s2.da 1:=by rw[g.da];simp[ak]
    simp only[go_sem,aa,reduceCtorEq,g.tmp,f1,f4,wi,g.base,df,gv,gb,b1,e1];exact⟨by simp,Fv.mono rfl rfl⟩
   have hc:cLp ls[i]=[.ft 2 (ls[i].map Bs)]:=by unfold cLp yc;rw[al a1]
   simp only[go_sem,aa,reduceCtorEq,dh,eb,f1,b1,f4,f6,ag,Gt,hgi,bp,aq,a2,a3];refine s5 (dd:=(ls.take i).map cLp) (ys:=[cLp ls[i]]) (osz:=some 1) ?_ ?_ rfl (by rw[hc];rfl) ?_ (by simp) ?_
   ·simp only[go_sem,aa];exact acc.mono (by simp[ak]) (by simp[ak])
   ·simp only[go_sem,aa,qm,hc]
   ·simp only[ag,ca,ed,dw];omega
   intro s3 g;have Fv:=g.acc (by simp);rw[g.tmp,ck]at Fv;simp only[fj]at Fv;have gv:=g.av 1 (by simp)
   have gb:s3.da 1=s2.da 1:=by rw[g.da];simp[ak]
   simp only[go_sem,aa,reduceCtorEq,g.tmp,f1,f4,wi,g.base,df,gv,gb,b1,e1];exact⟨by simp,Fv.mono rfl rfl⟩
  have:i=ls.length:=by omega
  subst this;rw[dt]at acc;simp only[go_sem,aa,reduceCtorEq,eb,f1,b1,f4,ag,hlt];rcases acc with ⟨a1,a2⟩|⟨a1,a2,a3⟩
  ·simp only[a1,a2,yc,dj]
  simp only[yc,al a1,a2,a3,dj]
 exact main.M7 (api ls)
end
def a0j(s:PS)(id sz:Nat)(dd:List (List D))(c:C):Prop:=
 (dd=[]∧c= .d .cq)∨(dd≠[]∧c= .ref id (s.av id) dd.length∧s.da id=some (.arr sz dd))
theorem a0j.acc{s:PS}{id sz:Nat}{dd:List (List D)}{c:C}(h:a0j s id sz dd c):se s id sz dd c.toV:=by
 rcases h with ⟨h1,rfl⟩|⟨h1,rfl,h3⟩
 ·exact .inl ⟨h1,rfl⟩
 exact .inr ⟨h1,rfl,h3⟩
theorem a0j.mono{s s':PS}{id sz:Nat}{dd:List (List D)}{c:C}(h:a0j s id sz dd c)(hv:s'.av id=s.av id)(hb:s'.da id=s.da id):a0j s' id sz dd c:=by
 rcases h with ⟨h1,h2⟩|⟨h1,h2,h3⟩
 ·exact .inl ⟨h1,h2⟩
 exact .inr ⟨h1,by rw[hv];exact h2,by rw[hb];exact h3⟩
theorem a0j.nil{s:PS}{id sz:Nat}:a0j s id sz [] (.d .cq):= .inl ⟨rfl,rfl⟩
def wFt(f:Ft):D:= .agg [.int ab f.k,yc 3 (f.vs.map cVl),lj f.ls]
section
variable{P:Program}(A:Pr P)
theorem amv(f:Ft)(hv:f.vs.length≤2^30)(h1:f.ls.length≤2^30)(h2:∀l∈f.ls,l.length≤2^30):iq P A.Ct [.agg (cFt f)] (.agg (cFt f)):=by
 have main:iq P A.Ct [.agg (cFt f)] (wFt f):=by
  refine du A.mo A.a8d (by simp) ?_;show ko P (Po A.Cu) (lg _ _) _;have ht:=amw A f.ls h1 h2;simp only[lj]at ht;simp only[Po,cFt,x6,lj,go_sem,aa,ae,ah];refine ff ht ?_;simp only[go_sem,aa,ae,ah]
  refine fh f.vs.length (fun i s'=>s'.base=0∧s'.tmp 1= .ic 1 (s'.av 1) 0∧s'.da 1=some (.loc [.d (.int ab f.k),.d (.ft 3 (f.vs.map cVl)),.d (.ft 1 (f.ls.map fun l=>[vz l]))])∧s'.tmp 4= .d (.int ab i)∧
   s'.tmp 2= .ic 2 (s'.av 2) 0∧s'.da 2=some (.loc [.d (.int ab 0),.d .cq,.d .cq])∧s'.tmp 3= .ic 3 (s'.av 3) 0∧
   ∃c,s'.da 3=some (.loc [.d (.int ab f.k),c,.d (.ft 1 (f.ls.map fun l=>[vz l]))])∧a0j s' 36 3 ((f.vs.take i).map cVl) c) ?_ ?_
  ·simp only[go_sem,aa];exact⟨_,rfl,a0j.nil⟩
  rintro i s' hi ⟨eb,f1,b1,f4,f2,b2,f3,c,b3,acc⟩;by_cases hlt:(i:Int)<f.vs.length
  ·have df:i<f.vs.length:=by omega
   have wi:=cu ((i:Int)+1) (by omega) (by omega)
   have e1:(f.vs.take (i+1)).map cVl=(f.vs.take i).map cVl++[cVl (f.vs.getD i v0)]:=by
    rw[fm,fu];simp[df,cd]
   simp only[go_sem,aa,ae,ah,reduceCtorEq,dh,eb,f1,b1,f3,b3,f4,ag,hlt,Yt df,bp,aq];refine s5 (dd:=(f.vs.take i).map cVl) (ys:=[cVl (f.vs.getD i v0)]) (osz:=some 3) ?_ ?_ rfl (by simp[cVl,D.one]) ?_ (by simp) ?_
   ·simp only[go_sem,aa];have:=acc.acc;cases c<;>exact this.mono (by simp[ak]) (by simp[ak])
   ·simp only[go_sem,aa,qm,cVl]
   ·simp only[ag,ca,ed,dw];omega
   intro s3 g;have gv1:=g.av 1 (by simp);have gv2:=g.av 2 (by simp);have gv3:=g.av 3 (by simp)
   have gb1:s3.da 1=s'.da 1:=by rw[g.da];simp[ak]
   have gb2:s3.da 2=s'.da 2:=by rw[g.da];simp[ak]
   have gb3:s3.da 3=s'.da 3:=by rw[g.da];simp[ak]
   have aE5:s3.da 36=some (.arr 3 ((f.vs.take i).map cVl++[cVl (f.vs.getD i v0)])):=by rw[g.da];simp[ak]
   have gt:=g.tmp;simp only[fj]at gt;simp only[ak,aa,reduceIte]at gv1 gv2 gv3;simp only[go_sem,aa,ae,ah,reduceCtorEq,gt,f1,f2,f3,f4,wi,g.base,df,gv1,gv2,gv3,gb1,gb2,gb3,aE5,b1,b2,b3,gq,e1];exact⟨by simp,_,rfl,.inr ⟨by simp,rfl,by simp[ak,aE5]⟩⟩
  have:i=f.vs.length:=by omega
  subst this;rw[dt]at acc;rcases acc with ⟨a1,rfl⟩|⟨a1,rfl,a3⟩
  ·simp only[go_sem,aa,ae,ah,reduceCtorEq,eb,f1,b1,f2,b2,f3,b3,f4,ag,hlt,wFt,lj];rw[yc,bm a1]
  simp only[go_sem,aa,ae,ah,reduceCtorEq,eb,f1,b1,f2,b2,f3,b3,f4,ag,hlt,wFt,lj,a3,gq];rw[yc,al a1]
 refine main.M7 (Wk.agg (by simp[cFt]) fun i x y hx hy=>?_)
 match i with
 |0=>simp only[cFt,dm,aj]at hx hy;subst hx hy;exact Wk.refl _
 |1=>simp only[cFt,gl,dm,aj]at hx hy;subst hx hy;exact Jz
 |2=>simp only[cFt,gl,dm,aj]at hx hy;subst hx hy;exact Wk.refl _
 |i+3=>simp at hx
theorem aAb(n:Nd)(hv:n.f.vs.length≤2^30)(h1:n.f.ls.length≤2^30)(h2:∀l∈n.f.ls,l.length≤2^30):iq P A.Gg [.agg (wz n)] (.agg (wz n)):=by
 refine du A.mo A.ac5 (by simp) ?_;show ko P (Rn A.Ct) (lg _ _) _;have ht:=amv A n.f hv h1 h2;simp only[cFt,x6,lj]at ht;simp only[Rn,wz,x6,lj,nr,go_sem,aa,ae,ah];refine ff ht ?_;simp only[go_sem,aa,ae,ah]
theorem Uj(t:Tr)(hp:t.ps.length*24≤2^47)(hs:M3 t):iq P A.yx [.agg (r8 t)] (.agg (r8 t)):=by
 have main:iq P A.yx [.agg (r8 t)] (.agg [jn t.ps,yc 5 (t.ns.map wz)]):=by
  refine du A.mo A.a8b (by simp) ?_;show ko P (Pn A.Bm A.Gg) (lg _ _) _;have ht:=aqk A t.ps hp;obtain⟨hs1,hs2⟩:=hs;simp only[jn]at ht;simp only[Pn,r8,jn,l7,go_sem,aa,ae,ah];refine ff ht ?_;simp only[go_sem,aa,ae,ah]
  refine fh t.ns.length (fun i s'=>s'.base=0∧s'.tmp 1= .ic 1 (s'.av 1) 0∧s'.da 1=some (.loc [.d (.ft 2 (t.ps.map tx)),.d (.ft 5 (t.ns.map wz))])∧s'.tmp 4= .d (.int ab i)∧
   s'.tmp 2= .ic 2 (s'.av 2) 0∧s'.da 2=some (.loc [.d .cq,.d .cq])∧s'.tmp 3= .ic 3 (s'.av 3) 0∧
   ∃c,s'.da 3=some (.loc [.d (.ft 2 (t.ps.map tx)),c])∧a0j s' 27 5 ((t.ns.take i).map wz) c) ?_ ?_
  ·simp only[go_sem,aa];exact⟨_,rfl,a0j.nil⟩
  rintro i s' hi ⟨eb,f1,b1,f4,f2,b2,f3,c,b3,acc⟩;by_cases hlt:(i:Int)<t.ns.length
  ·have df:i<t.ns.length:=by omega
   have wi:=cu ((i:Int)+1) (by omega) (by omega)
   have hgn:t.ns.getD i n0=t.ns[i]:=by simp[cd,df]
   have e1:(t.ns.take (i+1)).map wz=(t.ns.take i).map wz++[wz (t.ns.getD i n0)]:=by
    rw[fm,fu];simp[df,cd]
   obtain⟨q1,q2,q3,q4⟩:=hs2 _ (cy df);rw[←hgn]at q1 q2 q3 q4;have hn:=aAb A (t.ns.getD i n0) q2 q3 q4;have hg:=Fe df
   generalize t.ns.getD i n0=n at*
   simp only[wz,x6,lj,nr]at hn hg;simp only[go_sem,aa,ae,reduceCtorEq,eb,f1,b1,f3,b3,f4,ag,hlt,hg,bp,aq];refine ff hn ?_;simp only[go_sem,aa,ae,dh];refine s5 (dd:=(t.ns.take i).map wz) (ys:=[wz n]) (osz:=some 5) ?_ ?_ rfl (by simp[wz,D.one,x6,lj,nr]) ?_ (by simp) ?_
   ·simp only[go_sem,aa];have:=acc.acc;cases c<;>exact this.mono (by simp[ak]) (by simp[ak])
   ·simp only[go_sem,aa,qm,wz,x6,lj,nr]
   ·simp only[ag,ca,ed,dw];omega
   intro s3 g;have gv1:=g.av 1 (by simp);have gv2:=g.av 2 (by simp);have gv3:=g.av 3 (by simp)
   have gb1:s3.da 1=s'.da 1:=by rw[g.da];simp[ak]
   have gb2:s3.da 2=s'.da 2:=by rw[g.da];simp[ak]
   have gb3:s3.da 3=s'.da 3:=by rw[g.da];simp[ak]
   have aE6:s3.da 27=some (.arr 5 ((t.ns.take i).map wz++[wz n])):=by rw[g.da];simp[ak]
   have gt:=g.tmp;simp only[fj]at gt;simp only[ak,aa,reduceIte]at gv1 gv2 gv3;simp only[go_sem,aa,ae,reduceCtorEq,gt,f1,f2,f3,f4,wi,g.base,df,gv1,gv2,gv3,gb1,gb2,gb3,aE6,b1,b2,b3,gq,e1];exact⟨by simp,_,rfl,.inr ⟨by simp,rfl,by simp[ak,aE6]⟩⟩
  have:i=t.ns.length:=by omega
  subst this;rw[dt]at acc;rcases acc with ⟨a1,rfl⟩|⟨a1,rfl,a3⟩
  ·simp only[go_sem,aa,ae,reduceCtorEq,eb,f1,b1,f2,b2,f3,b3,f4,ag,hlt];rw[yc,bm a1]
  simp only[go_sem,aa,ae,reduceCtorEq,eb,f1,b1,f2,b2,f3,b3,f4,ag,hlt,a3,gq];rw[yc,al a1]
 refine main.M7 (Wk.agg (by simp[r8]) fun i x y hx hy=>?_)
 match i with
 |0=>simp only[r8,dm,aj]at hx hy;subst hx hy;exact Wk.refl _
 |1=>simp only[r8,gl,dm,aj]at hx hy;subst hx hy;exact Jz
 |i+2=>simp at hx
end
def a6g(ls:List (List Sp)):Nat→Int
 |0=>ls.length
 |k+1=>P1 ab (a6g ls k+(ls.getD k []).length)
def aas(ls:List (List Sp)):Bool:=decide (a6g ls ls.length≤100)
def Fb(s:ByteArray):Bool:=decide (s.size≤100)
def Xi(f:Ft)(ps:List Pm):Bool:=
 ((dn (min ps.length 40)).all fun i=>Fb ((ps.map Pm.n).getD i ⟨#[]⟩))&&(((dn (min f.vs.length 40)).all fun i=>Fb (f.vs.getD i v0).n)&&
  (decide (ps.length≤40)&&(decide (f.vs.length≤40)&&aas f.ls)))
def P4(t:Tr)(i:Nat):Bool:=
 Xi (t.ns.getD i n0).f t.ps&&(Fb (t.ns.getD i n0).n&&(decide ((t.ns.getD i n0).ins.length≤10)&&(dn (t.ns.getD i n0).ins.length).all fun k=>Fb ((t.ns.getD i n0).ins.getD k ⟨#[]⟩)))
def T9(t:Tr):Bool:=decide (t.ns.length≤25)&&(dn t.ns.length).all (P4 t)
section
variable{P:Program}(A:Pr P)
theorem amz(ls:List (List Sp))(h:ls.length≤2^50):iq P A.F2 [.agg [lj ls]] (.bool (aas ls)):=by
 refine du A.mo A.a8g (by simp) ?_;show ko P Ps (lg _ _) _;simp only[Ps,lj,go_sem,aa,ag];refine fh ls.length (fun i s'=>s'.tmp 1= .ic 1 (s'.av 1) 0∧s'.da 1=some (.loc [.d (.ft 1 (ls.map fun l=>[vz l]))])∧s'.tmp 4= .d (.int ab i)∧s'.tmp 3= .d (.int ab (a6g ls i))) ?_ ?_
 ·simp only[go_sem,aa,a6g,a1m]
 rintro i s' hi ⟨f1,b1,f4,f3⟩;by_cases hlt:(i:Int)<ls.length
 ·have df:i<ls.length:=by omega
  have wi:=cu ((i:Int)+1) (by omega) (by omega)
  have hli:ls.getD i []=ls[i]:=by simp[cd,df]
  have hc:a6g ls (i+1)=P1 ab (a6g ls i+ls[i].length):=by rw[a6g,hli]
  simp only[go_sem,aa,reduceCtorEq,f1,b1,f3,f4,ag,hlt,Fc df,bp,aq,wi,df,hc];simp
 have:i=ls.length:=by omega
 subst this;simp only[go_sem,aa,reduceCtorEq,f1,b1,f3,f4,ag,hlt,aas]
theorem amy(f:Ft)(ps:List Pm)(h:f.ls.length≤2^50)(h1:f.vs.length≤2^50)(h2:ps.length≤2^50):iq P A.F1 [.agg (cFt f),jn ps] (.bool (Xi f ps)):=by
 refine du A.mo A.a8e (by simp) ?_;show ko P (Pp A.F2) (lg _ _) _;have hs:=amz A f.ls h;simp only[lj]at hs;unfold Xi;simp only[Pp,cFt,x6,lj,jn,go_sem,ae];refine r9 (fun s'=>s'.tmp 1= .d (.ft 2 (ps.map tx))∧s'.tmp 2= .ic 2 (s'.av 2) 0∧s'.da 2=some (.loc [.d (.int ab f.k),.d (.ft 3 (f.vs.map cVl)),.d (.ft 1 (f.ls.map fun l=>[vz l]))])∧((dn (min ps.length 40)).all fun i=>Fb ((ps.map Pm.n).getD i ⟨#[]⟩))=true) ?_ ?_
 ·refine fh 40 (fun i s'=>s'.tmp 1= .d (.ft 2 (ps.map tx))∧s'.tmp 2= .ic 2 (s'.av 2) 0∧s'.da 2=some (.loc [.d (.int ab f.k),.d (.ft 3 (f.vs.map cVl)),.d (.ft 1 (f.ls.map fun l=>[vz l]))])∧s'.tmp 5= .d (.int ab i)∧i≤ps.length∧
   ∀i',i'<i→Fb ((ps.map Pm.n).getD i' ⟨#[]⟩)=true) ?_ ?_
  ·simp only[go_sem,aa];simp
  rintro i s' hi ⟨f1,f2,b2,f5,hil,hI⟩;by_cases hlt:(i:Int)<ps.length
  ·have df:i<ps.length:=by omega
   have wi:=cu ((i:Int)+1) (by omega) (by omega);have hg:=Yu df
   have hgn:(ps.map Pm.n).getD i ⟨#[]⟩=ps[i].n:=by simp[cd,df]
   by_cases h40:(i:Int)<40
   ·simp only[go_sem,aa,ae,ah,reduceCtorEq,f1,f5,ag,hlt,h40,hg,bp,aq];by_cases c1:(100:Int)<ps[i].n.size
    ·have:((dn (min ps.length 40)).all fun i=>Fb ((ps.map Pm.n).getD i ⟨#[]⟩))=false:=all_false (k:=i) (by omega) (by rw[hgn];unfold Fb;simp;omega);simp only[go_sem,aa,c1,this,dz]
    simp only[go_sem,aa,reduceCtorEq,f1,f2,b2,f5,c1,wi];exact⟨by omega,by simp,by omega,qf hI (by rw[hgn];unfold Fb;simp;omega)⟩
   simp only[go_sem,aa,reduceCtorEq,f1,f2,b2,f5,ag,hlt,h40];exact all_true fun i' Ds=>hI i' (by omega)
  simp only[go_sem,aa,reduceCtorEq,f1,f2,b2,f5,ag,hlt];exact all_true fun i' Ds=>hI i' (by omega)
 rintro s' ⟨f1,f2,b2,ha⟩;rw[ha,uh];simp only[go_sem];refine r9 (fun s'=>s'.tmp 1= .d (.ft 2 (ps.map tx))∧s'.tmp 2= .ic 2 (s'.av 2) 0∧s'.da 2=some (.loc [.d (.int ab f.k),.d (.ft 3 (f.vs.map cVl)),.d (.ft 1 (f.ls.map fun l=>[vz l]))])∧((dn (min f.vs.length 40)).all fun i=>Fb (f.vs.getD i v0).n)=true) ?_ ?_
 ·refine fh 40 (fun i s'=>s'.tmp 1= .d (.ft 2 (ps.map tx))∧s'.tmp 2= .ic 2 (s'.av 2) 0∧s'.da 2=some (.loc [.d (.int ab f.k),.d (.ft 3 (f.vs.map cVl)),.d (.ft 1 (f.ls.map fun l=>[vz l]))])∧s'.tmp 6= .d (.int ab i)∧i≤f.vs.length∧
   ∀i',i'<i→Fb (f.vs.getD i' v0).n=true) ?_ ?_
  ·simp only[go_sem,aa,f1,f2,b2];simp
  clear f1 f2 b2;rintro i s' hi ⟨f1,f2,b2,f6,hil,hI⟩;by_cases hlt:(i:Int)<f.vs.length
  ·have df:i<f.vs.length:=by omega
   have wi:=cu ((i:Int)+1) (by omega) (by omega);have hg:=Yt df;by_cases h40:(i:Int)<40
   ·simp only[go_sem,aa,ae,ah,reduceCtorEq,f2,b2,f6,ag,hlt,h40,hg,bp,aq];by_cases c1:(100:Int)<(f.vs.getD i v0).n.size
    ·have:((dn (min f.vs.length 40)).all fun i=>Fb (f.vs.getD i v0).n)=false:=all_false (k:=i) (by omega) (by unfold Fb;simp only[decide_eq_false_iff_not];omega);simp only[go_sem,aa,c1,this,dz]
    simp only[go_sem,aa,reduceCtorEq,f1,f2,b2,f6,c1,wi];exact⟨by omega,by simp,by omega,qf hI (by unfold Fb;simp only[decide_eq_true_eq];omega)⟩
   simp only[go_sem,aa,ae,ah,reduceCtorEq,f1,f2,b2,f6,ag,hlt,h40];exact all_true fun i' Ds=>hI i' (by omega)
  simp only[go_sem,aa,ae,ah,reduceCtorEq,f1,f2,b2,f6,ag,hlt];exact all_true fun i' Ds=>hI i' (by omega)
 clear f1 f2 b2;rintro s' ⟨f1,f2,b2,hb⟩;rw[hb,uh];by_cases c1:(ps.length:Int)≤40
 ·have c1':ps.length≤40:=by omega
  by_cases c2:(f.vs.length:Int)≤40
  ·have c2':f.vs.length≤40:=by omega
   simp only[go_sem,aa,ae,ah,reduceCtorEq,f1,f2,b2,ag,c1,c1',c2,c2'];refine ff hs ?_;simp only[go_sem,aa]
  have c2':¬f.vs.length≤40:=by omega
  simp only[go_sem,aa,ae,ah,reduceCtorEq,f1,f2,b2,ag,c1,c1',c2,c2',dz]
 have c1':¬ps.length≤40:=by omega
 simp only[go_sem,aa,reduceCtorEq,f1,ag,c1,c1',dz]
def aEw(t:Tr):Prop:=t.ps.length≤2^50∧∀n∈t.ns,n.f.ls.length≤2^50∧n.f.vs.length≤2^50
theorem a95(t:Tr)(hb:aEw t):iq P A.Cs [.agg (r8 t)] (.bool (T9 t)):=by
 refine du A.mo A.a8c (by simp) ?_;show ko P (L9 A.F1) (lg _ _) _;unfold T9;by_cases c0:(25:Int)<t.ns.length
 ·have c0':¬t.ns.length≤25:=by omega
  simp only[L9,r8,jn,l7,go_sem,aa,ae,reduceCtorEq,ag,c0,c0',dz]
 have c0':t.ns.length≤25:=by omega
 simp only[L9,r8,jn,l7,go_sem,aa,ae,reduceCtorEq,ag,c0,c0'];refine fh t.ns.length (fun i s'=>s'.base=0∧s'.tmp 1= .ic 1 (s'.av 1) 0∧s'.da 1=some (.loc [.d (.ft 2 (t.ps.map tx)),.d (.ft 5 (t.ns.map wz))])∧s'.tmp 3= .d (.int ab i)∧∀i',i'<i→P4 t i'=true) ?_ ?_
 ·simp only[go_sem,aa];simp
 rintro i s' hi ⟨eb,f1,b1,f3,hI⟩;by_cases hlt:(i:Int)<t.ns.length
 ·have df:i<t.ns.length:=by omega
  have wi:=cu ((i:Int)+1) (by omega) (by omega);have hg:=Fe df
  have hgn:t.ns.getD i n0=t.ns[i]:=by simp[cd,df]
  obtain⟨q1,q2⟩:=hb.2 _ (cy df);rw[←hgn]at q1 q2;have Bc:P4 t i=(Xi (t.ns.getD i n0).f t.ps&&(Fb (t.ns.getD i n0).n&&(decide ((t.ns.getD i n0).ins.length≤10)&&(dn (t.ns.getD i n0).ins.length).all fun k=>Fb ((t.ns.getD i n0).ins.getD k ⟨#[]⟩)))):=rfl;have no:P4 t i=false→(dn t.ns.length).all (P4 t)=false:=fun h=>all_false df h;have hsh:=amy A (t.ns.getD i n0).f t.ps q1 q2 hb.1
  generalize t.ns.getD i n0=n at*
  simp only[cFt,x6,lj,jn]at hsh;simp only[x6,lj,nr]at hg;simp only[go_sem,aa,ae,ah,reduceCtorEq,eb,f1,b1,f3,ag,hlt,hg,bp,aq];refine il hsh ?_;cases c1:Xi n.f t.ps
  ·have:P4 t i=false:=by rw[Bc,c1];rfl
   simp only[go_sem,aa,no this]
  by_cases c2:(100:Int)<n.n.size
  ·have:P4 t i=false:=by rw[Bc,show Fb n.n=false by unfold Fb;simp;omega];simp
   simp only[go_sem,aa,ae,ah,reduceCtorEq,c2,no this]
  by_cases c3:(10:Int)<n.ins.length
  ·have:P4 t i=false:=by rw[Bc,decide_eq_false (show¬n.ins.length≤10 by omega)];simp
   simp only[go_sem,aa,ae,ah,reduceCtorEq,c2,c3,ag,no this]
  have aDh:P4 t i=(dn n.ins.length).all fun k=>Fb (n.ins.getD k ⟨#[]⟩):=by
   rw[Bc,c1,show Fb n.n=true by unfold Fb;simp;omega,decide_eq_true (show n.ins.length≤10 by omega)];rfl
  simp only[go_sem,aa,ae,ah,reduceCtorEq,c2,c3,ag];refine fh n.ins.length (fun k s'=>s'.base=0∧s'.tmp 1= .ic 1 (s'.av 1) 0∧s'.da 1=some (.loc [.d (.ft 2 (t.ps.map tx)),.d (.ft 5 (t.ns.map wz))])∧s'.tmp 3= .d (.int ab i)∧s'.tmp 4= .ic 4 (s'.av 4) 0∧s'.da 4=some (.loc [.d (.str n.n),.d (.int ab n.f.k),.d (.ft 3 (n.f.vs.map cVl)),.d (.ft 1 (n.f.ls.map fun l=>[vz l])),.d (.ft 1 (n.ins.map nh))])∧s'.tmp 5= .d (.int ab k)∧∀k',k'<k→Fb (n.ins.getD k' ⟨#[]⟩)=true) ?_ ?_
  ·simp only[go_sem,aa,f1,b1,f3];simp
  clear eb f1 b1 f3;rintro k s2 hk ⟨eb,f1,b1,f3,f4,b4,f5,hK⟩;by_cases Gt:(k:Int)<n.ins.length
  ·have qg:k<n.ins.length:=by omega
   have wk:=cu ((k:Int)+1) (by omega) (by omega);simp only[go_sem,aa,ae,reduceCtorEq,eb,f4,b4,f5,ag,Gt,Ck qg,bp,aq];by_cases c4:(100:Int)<(n.ins.getD k ⟨#[]⟩).size
   ·have:P4 t i=false:=by rw[aDh];exact all_false qg (by unfold Fb;simp only[decide_eq_false_iff_not];omega)
    simp only[go_sem,aa,c4,no this]
   simp only[go_sem,aa,reduceCtorEq,f1,b1,f3,f4,b4,f5,c4,wk,qg];exact⟨by simp,qf hK (by unfold Fb;simp only[decide_eq_true_eq];omega)⟩
  have:k=n.ins.length:=by omega
  subst this;simp only[go_sem,aa,ae,reduceCtorEq,eb,f1,b1,f3,f4,b4,f5,ag,Gt,wi,df];exact⟨by simp,qf hI (by rw[aDh];exact all_true hK)⟩
 have:i=t.ns.length:=by omega
 subst this;rw[all_true hI];simp only[go_sem,aa,ae,reduceCtorEq,eb,f1,b1,f3,ag,hlt]
end
theorem iq.args{P:Program}{f:Nat}{xs ys:List D}{r:D}(h:iq P f xs r)(hl:ys.length=xs.length)(hw:∀(i:Nat) (x y:D),xs[i]? =some x→ys[i]? =some y→Wk y x):iq P f ys r:=
 ⟨h.1,fun G w vs hG hl' hr=>h.2 G w vs hG (by omega) fun i x v hx hv=>by
  have hi:i<ys.length:=by have:=(aw.1 hx).1;omega
  exact hw i x _ hx (ax hi) G v (hr i _ v (ax hi) hv)⟩
section
variable{P:Program}(A:Pr P)
end
def xi(p:Nat→Bool)(n:Nat):Int:=match(dn n).find? p with|some i=>i|none=> -1
theorem Oz{p:Nat→Bool}{n:Nat}(h:∀i,i<n→p i=false):xi p n= -1:=by
 have:(dn n).find? p=none:=X8.2 fun i hi=>by simp[h i (ep.1 hi)]
 unfold xi;rw[this]
theorem aj8{p:Nat→Bool}:∀{n k:Nat},k<n→p k=true→(∀i,i<k→p i=false)→(dn n).find? p=some k:=by
 intro n
 induction n with
 |zero=>intro k hk;omega
 |succ n ih=>
  intro k hk hp hb;rw[List.range_succ,List.find?_append];by_cases e:k=n
  ·subst e;rw[X8.2 fun i hi=>by simp[hb i (ep.1 hi)]];simp[hp]
  rw[ih (by omega) hp hb];rfl
theorem Iq{p:Nat→Bool}{n k:Nat}(hk:k<n)(hp:p k=true)(hb:∀i,i<k→p i=false):xi p n=k:=by
 unfold xi;rw[aj8 hk hp hb]
theorem R1{p:Nat→Bool}{n:Nat}:decide (xi p n≥0)=(dn n).any p:=by
 unfold xi
 cases h:(dn n).find? p with
 |none=>
  rw[X8]at h
  have:(dn n).any p=false:=by
   rw[auu]
   exact fun i hi=>by simpa using h i hi
  rw[this];rfl
 |some k=>
  have h1:=List.find?_some h;have h2:=Ug h;have:(dn n).any p=true:=A9.2 ⟨k,h2,h1⟩;rw[this]
  try simp
theorem Fy(p:Nat→Bool)(n:Nat):(xi p n= -1∧∀i,i<n→p i=false)∨∃k,k<n∧p k=true∧xi p n=k∧∀i,i<k→p i=false:=by
 cases h:(dn n).find? p with
 |none=>
  rw[X8]at h
  exact .inl (by
   have h':∀i,i<n→p i=false:=fun i hi=>by simpa using h i (ep.2 hi)
   exact⟨Oz h',h'⟩)
 |some k=>
  obtain⟨h1,asL,bs,h2,h3⟩:=Z3.1 h;have hk:=ep.1 (Ug h);refine .inr ⟨k,hk,h1,by unfold xi;rw[h],fun i hi=>?_⟩
  have hlen:asL.length=k:=by
   have h4:(dn n)[asL.length]? =some k:=by rw[h2];simp
   have hlt:asL.length<n:=by
    have:=(aw.1 h4).1;simpa using this
   rw[M5 hlt]at h4;exact av0 h4
  have:asL[i]? =some i:=by
   have h5:(dn n)[i]? =some i:=M5 (by omega);rw[h2,l8 (by omega)]at h5;exact h5
  simpa using h3 i (jt this)
def aD7(n:Nat)(agg:Bool):di:=
 (.seq (
 .region [⟨some 4,.j7 (.c (.int ab 0)),none,[]⟩] false []) (
 (.seq (
  (.seq (
  .region [⟨some 6,.j7 (.t 0),none,[]⟩,
   ⟨some 7,.len .ft (.t 6),none,[]⟩,
   ⟨some 8,.j7 (.c (.int ab 0)),none,[]⟩] false []) (
  (.block 0 (
   (.loop (
   (.seq (
    .region [⟨some 9,.bin .lss (.t 8) (.t 7),none,[]⟩] false []) (
    (.seq (
    (.cond (.t 9) (
     .skip) (
     .exit 0))) (
    (.seq (
     (.block 1 (
     (.seq (
      .region [⟨some 10,.j7 (.t 8),none,[]⟩,
       ⟨some 5,.j7 (.t 10),none,[]⟩] false []) (
      (.seq (
      .region [⟨some 11,.j7 (.t 1),none,[]⟩,
       ⟨some 12,.j7 (.t 0),none,[]⟩,
       ⟨some 13,.j7 (.t 5),none,[]⟩,
       ⟨some 14,.sq n (.t 12) (.t 13),none,[]⟩,
       ⟨some 15,.load n agg (.t 14),none,[]⟩,
       ⟨some 16,.wv (.t 11) [(.t 15)],none,[]⟩] false []) (
      (.cond (.t 16) (
       (.seq (
       .region [⟨some 17,.j7 (.t 5),none,[]⟩,
        ⟨some 4,.j7 (.t 17),none,[]⟩] false []) (
       .ret))) (
       .skip))))))))) (
     .region [⟨some 18,.bin .add (.t 8) (.c (.int ab 1)),none,[]⟩,
      ⟨some 8,.j7 (.t 18),none,[]⟩] false []))))))))))))) (
  (.seq (
  .region [⟨some 4,.j7 (.c (.int ab (-1))),none,[]⟩] false []) (
  .ret))))))
def aEj(f:Nat):di:=
 (.seq (
 .region [⟨some 4,.j7 (.c (.bool false)),none,[]⟩] false []) (
 (.seq (
  .region [⟨some 5,.j7 (.t 0),none,[]⟩,
   ⟨some 6,.j7 (.t 1),none,[]⟩,
   ⟨some 7,.call f [(.t 5),(.t 6)],none,[]⟩,
   ⟨some 8,.bin .geq (.t 7) (.c (.int ab 0)),none,[]⟩,
   ⟨some 4,.j7 (.t 8),none,[]⟩] false []) (
  .ret))))
theorem arz{n:Nat}{agg:Bool}{e:List D}(h:e.length=n):mkd agg (aL9 n e)=mkd agg e:=by rw[←h,dt]
section
variable{P:Program}(A:Pr P)
theorem a48{n:Nat}{agg:Bool}{dd:List (List D)}{xs:Nat→D}{g:Nat}{iy:List D}{p:Nat→Bool}(hx:∀(i:Nat) (e:List D),dd[i]? =some e→e.length=n∧mkd agg e= .d (xs i))
  (hp:∀i,i<dd.length→iq P g (xs i::iy) (.bool (p i)))(hl:dd.length≤2^50):ko P (aD7 n agg) (lg [.tmp 4] (.int ab (xi p dd.length))) (start [.ft n dd,.nu g iy]):=by
 simp only[aD7,go_sem,aa,de,reduceCtorEq];refine fh dd.length (fun i s'=>s'.tmp 0= .d (.ft n dd)∧s'.tmp 1= .d (.nu g iy)∧s'.tmp 7= .d (.int ab dd.length)∧s'.tmp 8= .d (.int ab i)∧∀i',i'<i→p i'=false) ?_ ?_
 ·simp only[go_sem,aa,reduceCtorEq]
  try simp
 rintro i s' hi ⟨f0,f1,f7,f8,hI⟩;by_cases hlt:(i:Int)<dd.length
 ·have df:i<dd.length:=by omega
  have wi:=cu ((i:Int)+1) (by omega) (by omega);obtain⟨e,he⟩:∃e,dd[i]? =some e:=⟨_,ax df⟩;obtain⟨h1,h2⟩:=hx i e he;have h3:=h2;rw[←arz h1]at h3;simp only[mkd]at h3
  have hle:n≤e.length:=by omega
  simp only[go_sem,aa,de,reduceCtorEq,f0,f1,f7,f8,hlt,he,bp,aq,hle,h3];refine a6j (hp i df) ?_;cases c1:p i
  ·simp only[go_sem,aa,de,reduceCtorEq,f0,f1,f7,f8,wi,df];exact⟨by simp,qf hI c1⟩
  simp only[go_sem,aa,de];rw[Iq df c1 hI]
 have:i=dd.length:=by omega
 subst this;simp only[go_sem,aa,de,reduceCtorEq,f7,f8,hlt];rw[Oz hI]
theorem aba{f:Nat}{x y:D}{k:Int}(h:iq P f [x,y] (.int ab k)):ko P (aEj f) (lg [.tmp 4] (.bool (decide (k≥0)))) (start [x,y]):=by
 simp only[aEj,go_sem,aa,reduceCtorEq];refine il h ?_;simp only[go_sem,aa,reduceCtorEq]
theorem aqn{l:List Vl}{g:Nat}{iy:List D}{p:Nat→Bool}(hp:∀i (h:i<l.length),iq P g (.agg (cVl l[i])::iy) (.bool (p i)))(hl:l.length≤2^50):
  iq P A.ph [x6 l,.nu g iy] (.int ab (xi p l.length)):=by
 have:=a48 (P:=P) (n:=3) (agg:=true) (dd:=l.map cVl) (xs:=fun i=> .agg (cVl (l.getD i v0))) (g:=g) (iy:=iy) (p:=p) (fun i e he=>by
  simp only[cw,ao]at he;obtain⟨v,hv,rfl⟩:=he
  simp[cVl,mkd,cd,hv]) (fun i hi=>by
   have Ds:i<l.length:=by simpa using hi
   have e:l.getD i v0=l[i]:=by simp[cd,Ds]
   rw[e];exact hp i Ds) (by simpa using hl)
 rw[ag]at this;exact du A.mo A.Jn (by simp) this
theorem aqt{l:List Vl}{g:Nat}{iy:List D}{p:Nat→Bool}(hp:∀i (h:i<l.length),iq P g (.agg (cVl l[i])::iy) (.bool (p i)))(hl:l.length≤2^50):
  iq P A.lx [x6 l,.nu g iy] (.bool ((dn l.length).any p)):=by
 rw[←R1];exact du A.mo A.He (by simp) (aba (aqn A hp hl))
theorem ae2{l:List Nd}{g:Nat}{iy:List D}{p:Nat→Bool}(hp:∀i (h:i<l.length),iq P g (.agg (wz l[i])::iy) (.bool (p i)))(hl:l.length≤2^50):
  iq P A.j4 [l7 l,.nu g iy] (.int ab (xi p l.length)):=by
 have:=a48 (P:=P) (n:=5) (agg:=true) (dd:=l.map wz) (xs:=fun i=> .agg (wz (l.getD i n0))) (g:=g) (iy:=iy) (p:=p) (fun i e he=>by
  simp only[cw,ao]at he;obtain⟨v,hv,rfl⟩:=he
  simp[wz,mkd,cd,hv]) (fun i hi=>by
   have Ds:i<l.length:=by simpa using hi
   have e:l.getD i n0=l[i]:=by simp[cd,Ds]
   rw[e];exact hp i Ds) (by simpa using hl)
 rw[ag]at this;exact du A.mo A.K8 (by simp) this
theorem aqo{l:List Pm}{g:Nat}{iy:List D}{p:Nat→Bool}(hp:∀i (h:i<l.length),iq P g (.agg (tx l[i])::iy) (.bool (p i)))(hl:l.length≤2^50):
  iq P A.ml [jn l,.nu g iy] (.int ab (xi p l.length)):=by
 have:=a48 (P:=P) (n:=2) (agg:=true) (dd:=l.map tx) (xs:=fun i=> .agg (tx (l.getD i ⟨⟨#[]⟩,0⟩))) (g:=g) (iy:=iy) (p:=p) (fun i e he=>by
  simp only[cw,ao]at he;obtain⟨v,hv,rfl⟩:=he
  simp[tx,mkd,cd,hv]) (fun i hi=>by
   have Ds:i<l.length:=by simpa using hi
   have e:l.getD i ⟨⟨#[]⟩,0⟩=l[i]:=by simp[cd,Ds]
   rw[e];exact hp i Ds) (by simpa using hl)
 rw[ag]at this;exact du A.mo A.Jo (by simp) this
theorem ae1{l:List Sp}{g:Nat}{iy:List D}{p:Nat→Bool}(hp:∀i (h:i<l.length),iq P g (.agg (Bs l[i])::iy) (.bool (p i)))(hl:l.length≤2^50):
  iq P A.jw [vz l,.nu g iy] (.int ab (xi p l.length)):=by
 have:=a48 (P:=P) (n:=2) (agg:=true) (dd:=l.map Bs) (xs:=fun i=> .agg (Bs (l.getD i (0,0)))) (g:=g) (iy:=iy) (p:=p) (fun i e he=>by
  simp only[cw,ao]at he;obtain⟨v,hv,rfl⟩:=he
  simp[Bs,mkd,cd,hv]) (fun i hi=>by
   have Ds:i<l.length:=by simpa using hi
   have e:l.getD i (0,0)=l[i]:=by simp[cd,Ds]
   rw[e];exact hp i Ds) (by simpa using hl)
 rw[ag]at this;exact du A.mo A.K9 (by simp) this
theorem aqu{l:List Sp}{g:Nat}{iy:List D}{p:Nat→Bool}(hp:∀i (h:i<l.length),iq P g (.agg (Bs l[i])::iy) (.bool (p i)))(hl:l.length≤2^50):
  iq P A.ly [vz l,.nu g iy] (.bool ((dn l.length).any p)):=by
 rw[←R1];exact du A.mo A.Ig (by simp) (aba (ae1 A hp hl))
theorem an2{l:List ByteArray}{g:Nat}{iy:List D}{p:Nat→Bool}(hp:∀i (h:i<l.length),iq P g (.str l[i]::iy) (.bool (p i)))(hl:l.length≤2^50):
  iq P A.td [nr l,.nu g iy] (.int ab (xi p l.length)):=by
 have:=a48 (P:=P) (n:=1) (agg:=false) (dd:=l.map nh) (xs:=fun i=> .str (l.getD i ⟨#[]⟩)) (g:=g) (iy:=iy) (p:=p) (fun i e he=>by
  simp only[cw,ao]at he;obtain⟨v,hv,rfl⟩:=he
  simp[nh,mkd,cd,hv]) (fun i hi=>by
   have Ds:i<l.length:=by simpa using hi
   have e:l.getD i ⟨#[]⟩=l[i]:=by simp[cd,Ds]
   rw[e];exact hp i Ds) (by simpa using hl)
 rw[ag]at this;exact du A.mo A.Oj (by simp) this
theorem a98{l:List ByteArray}{g:Nat}{iy:List D}{p:Nat→Bool}(hp:∀i (h:i<l.length),iq P g (.str l[i]::iy) (.bool (p i)))(hl:l.length≤2^50):
  iq P A.jy [nr l,.nu g iy] (.bool ((dn l.length).any p)):=by
 rw[←R1];exact du A.mo A.Mx (by simp) (aba (an2 A hp hl))
theorem ae0(l:List ByteArray)(x:ByteArray)(hl:l.length≤2^50):iq P A.yi [nr l,.str x] (.int ab (xi (fun i=>kf x (l.getD i ⟨#[]⟩)) l.length)):=by
 refine du A.mo A.Su (by simp) ?_;show ko P F4 (lg _ _) _;simp only[F4,nr,go_sem,aa,de,reduceCtorEq];refine fh l.length (fun i s'=>s'.tmp 0= .d (.ft 1 (l.map nh))∧s'.tmp 1= .d (.str x)∧s'.tmp 7= .d (.int ab l.length)∧s'.tmp 8= .d (.int ab i)∧∀i',i'<i→kf x (l.getD i' ⟨#[]⟩)=false) ?_ ?_
 ·simp only[go_sem,aa,reduceCtorEq,ag]
  try simp
 rintro i s' hi ⟨f0,f1,f7,f8,hI⟩;by_cases hlt:(i:Int)<l.length
 ·have df:i<l.length:=by omega
  have wi:=cu ((i:Int)+1) (by omega) (by omega);cases c1:kf x (l.getD i ⟨#[]⟩)
  ·have c1':=c1;unfold kf at c1';simp only[go_sem,aa,de,reduceCtorEq,f0,f1,f7,f8,hlt,Ck df,bp,aq,c1',wi,df];exact⟨by simp,qf hI c1⟩
  have c1':=c1;unfold kf at c1';simp only[go_sem,aa,de,reduceCtorEq,f0,f1,f7,f8,hlt,Ck df,bp,aq,c1'];rw[Iq (p:=fun i=>kf x (l.getD i ⟨#[]⟩)) df c1 hI]
 have:i=l.length:=by omega
 subst this;simp only[go_sem,aa,de,reduceCtorEq,f7,f8,hlt];rw[Oz (p:=fun i=>kf x (l.getD i ⟨#[]⟩)) hI]
theorem aiz(l:List ByteArray)(x:ByteArray):(dn l.length).any (fun i=>kf x (l.getD i ⟨#[]⟩))=hasB l x:=by
 unfold hasB;rw[Sn,A9,A9];constructor
 ·rintro⟨i,hi,h⟩;have hi:=ep.1 hi;refine⟨l[i],cy hi,?_⟩;simp only[cd,ax hi,j6]at h;unfold kf at h⊢;rw[beq_iff_eq]at h⊢;exact h.symm
 rintro⟨y,hy,h⟩;obtain⟨i,hi,rfl⟩:=jd hy;refine⟨i,ep.2 hi,?_⟩;simp only[cd,ax hi,j6];unfold kf at h⊢;rw[beq_iff_eq]at h⊢;exact h.symm
theorem Ta(l:List ByteArray)(x:ByteArray)(hl:l.length≤2^50):iq P A.lh [nr l,.str x] (.bool (hasB l x)):=by
 rw[←aiz,←R1];exact du A.mo A.Q1 (by simp) (aba (ae0 A l x hl))
end
theorem toList_eq(s:ByteArray):s.toList=s.data.toList:=ByteArray.toList_eq s
theorem alp(a b:ByteArray):(a==b)=kf a b:=by
 unfold kf;rw[toList_eq,toList_eq];have:(a==b)=(a.data==b.data):=rfl;rw[this,Sn,beq_iff_eq,beq_iff_eq]
 exact⟨fun h=>by rw[h],fun h=>by
  have:=congrArg List.toArray h
  simpa using this⟩
theorem Xl{a b:ByteArray}(h:kf a b=true):a=b:=by
 unfold kf at h;rw[beq_iff_eq,toList_eq,toList_eq]at h;have h':=congrArg List.toArray h;simp only[Array.toArray_toList]at h';cases a;cases b
 simp_all
def abt{P:Program}(A:Pr P):List D:=[.str ⟨#[98,111,120]⟩,.int ab 0,.int ab 6,.nu A.Ci [],
 .str ⟨#[112,114,105,115,109]⟩,.int ab 0,.int ab 2,.nu A.Ch [],.str ⟨#[115,108,97,110,116]⟩,.int ab 0,.int ab 4,.nu A.Cg [],
 .str ⟨#[112,121,114,97,109,105,100]⟩,.int ab 0,.int ab 4,.nu A.Cf [],.str ⟨#[117,110,105,111,110]⟩,.int ab 2,.int ab 0,.nu A.Ce [],
 .str ⟨#[105,110,116,101,114,115,101,99,116]⟩,.int ab 2,.int ab 0,.nu A.Cd [],.str ⟨#[115,117,98,116,114,97,99,116]⟩,.int ab 2,.int ab 0,.nu A.Cc [],
 .str ⟨#[99,108,105,112]⟩,.int ab 1,.int ab 4,.nu A.G4 [],.str ⟨#[115,104,105,102,116]⟩,.int ab 1,.int ab 3,.nu A.Cb [],
 .str ⟨#[115,121,109,109,101,116,114,121]⟩,.int ab 1,.int ab 1,.nu A.Ca [],.str ⟨#[115,99,97,108,101]⟩,.int ab 1,.int ab 2,.nu A.Bp [],
 .str ⟨#[115,117,109]⟩,.int ab 1,.int ab 6,.nu A.Bo [],.str ⟨#[99,111,114,101]⟩,.int ab 1,.int ab 6,.nu A.Bn [],
 .str ⟨#[114,101,112,101,97,116]⟩,.int ab 1,.int ab 4,.nu A.Dq []]
theorem a9q{P:Program}(A:Pr P){k:Nat}(h:k<14):∃n c,((abt A).drop (k*4)).take 4=[.str n,.int ab (kIn k),.int ab (Ib k),c]:=by
 match k,h with
 |0,_|1,_|2,_|3,_|4,_|5,_|6,_|7,_|8,_|9,_|10,_|11,_|12,_|13,_=>exact⟨_,_,rfl⟩
 |n+14,h=>omega
theorem Zo{P:Program}(A:Pr P):(abt A).length=56:=rfl
def K1{P:Program}(A:Pr P)(pr:List (List Sp)→Bool):Prop:=
 ∀ls:List (List Sp),ls.length≤2^30→(∀l∈ls,l.length≤2^30)→iq P A.Bz [.agg [lj ls]] (.int ab (if pr ls then 0 else 170))
section
variable{P:Program}(A:Pr P)
theorem Vq(l:List Pm):iq P A.mz [jn l] (.int ab (if yd l then 0 else 1)):=by
 refine du A.mo A.T3 (by simp) ?_;show ko P (Bv A.ju A.qi) (lg _ _) _;unfold yd;by_cases h1:(20:Int)<l.length
 ·have h1':¬l.length≤20:=by omega
  simp only[Bv,jn,go_sem,aa,reduceCtorEq,ag,h1,h1',dz]
 have h1':l.length≤20:=by omega
 simp only[Bv,jn,go_sem,aa,reduceCtorEq,ag,h1,h1'];refine fh l.length (fun k s'=>s'.base=0∧s'.tmp 0= .d (.ft 2 (l.map tx))∧s'.tmp 8= .d (.ft 2 (l.map tx))∧s'.tmp 9= .d (.int ab l.length)∧s'.tmp 10= .d (.int ab k)∧∀i,i<k→a7l l i=true) ?_ ?_
 ·simp only[go_sem,aa,reduceCtorEq]
  try simp
 rintro k s' hk ⟨eb,e0,e8,e9,e10,ha⟩;by_cases hlt:(k:Int)<l.length
 ·have df:k<l.length:=by omega
  have hg:(l.map tx)[k]? =some [.str l[k].n,.int ab l[k].v]:=by simp[df,tx]
  have wk:=cu ((k:Int)+1) (by omega) (by omega)
  have hp:a7l l k=(xf l[k].n&&(Py l[k].v&&ui (l.map Pm.n) k)):=by unfold a7l;simp[df]
  simp only[go_sem,aa,ae,ah,reduceCtorEq,eb,e8,e9,e10,hlt,bp,hg,aq];refine ff (Xo A _) ?_;cases q1:xf l[k].n
  ·simp only[go_sem,aa];rw[all_false df (by rw[hp,q1];rfl)];rfl
  simp only[go_sem,aa,ae];refine ff (a3u A _) ?_;cases q2:Py l[k].v
  ·simp only[go_sem,aa];rw[all_false df (by rw[hp,q1,q2];rfl)];rfl
  by_cases q3:(0:Int)<k
  ·have hg':(l.map tx)[k-1]? =some [.str l[k-1].n,.int ab l[k-1].v]:=by
    have:k-1<l.length:=by omega
    simp[this,tx]
   have w1:=cu ((k:Int)-1) (by omega) (by omega)
   have z:(0:Int)≤(k:Int)-1:=by omega
   have hr:ui (l.map Pm.n) k=strLt l[k-1].n l[k].n:=by
    unfold ui
    have h0:k≠0:=by omega
    have:k-1<l.length:=by omega
    simp[h0,this,df]
   cases q4:strLt l[k-1].n l[k].n
   ·have q4':=q4;unfold strLt at q4';simp only[go_sem,aa,ae,ah,reduceCtorEq,e0,q3,w1,Is q3,hg',z,q4'];rw[all_false df (by rw[hp,q1,q2,hr,q4];rfl)];rfl
   have q4':=q4;unfold strLt at q4';simp only[go_sem,aa,ae,ah,reduceCtorEq,e0,e8,e9,e10,q3,w1,Is q3,hg',z,q4',wk];exact⟨df,by simp,qf ha (by rw[hp,q1,q2,hr,q4];rfl)⟩
  simp only[go_sem,aa,reduceCtorEq,e0,e8,e9,e10,q3,wk];exact⟨df,by simp,qf ha (by rw[hp,q1,q2];unfold ui;simp;omega)⟩
 simp only[go_sem,aa,reduceCtorEq,eb,e9,e10,hlt];rw[all_true fun i hi=>ha i (by omega)];rfl
theorem a7g(v:Vl):iq P A.ue [.agg (cVl v)] (.bool (Kk v)):=by
 refine du A.mo A.T0 (by simp) ?_;show ko P (F8 A.qi A.ju) (lg _ _) _;unfold Kk;simp only[F8,cVl,go_sem,aa,ae,ah];refine ff (a3u A _) ?_;cases h1:Py v.t
 ·simp only[go_sem,aa,dz]
 simp only[go_sem,aa,ae];refine ff (a3u A _) ?_;cases h2:Py v.a
 ·simp only[go_sem,aa,dz]
 simp only[go_sem,aa,ae,ah];refine ff (Xo A _) ?_;cases h3:xf v.n
 ·cases h4:isE v.n
  ·simp only[isE]at h4;simp only[go_sem,aa,ae,ah,h4,dz,Vj]
  simp only[isE]at h4;simp only[go_sem,aa,ae,ah,reduceCtorEq,h4,L8]
 simp only[go_sem,aa,Ho]
theorem an6(v:Vl):iq P A.xk [.agg (cVl v)] (.bool !(Kk v)):=by
 refine du A.mo A.Yk (by simp) ?_;show ko P (Jg A.ue) (lg _ _) _;have h:=a7g A v;simp only[cVl]at h;simp only[Jg,cVl,go_sem,aa,ae];refine ff h ?_;simp only[go_sem,aa]
theorem aaz:iq P A.oe [] (.agg (abt A)):=by
 refine du A.mo A.a2n (by simp) ?_;show ko P (Mr A.Ci A.Ch A.Cg A.Cf A.Ce A.Cd A.Cc A.G4 A.Cb A.Ca A.Bp A.Bo A.Bn A.Dq) (lg _ _) _;simp only[Mr,go_sem,aa,ae,ah,reduceCtorEq,abt]
theorem ako(k:Int):iq P A.o8 [.int ab k] (.bool (decide (0≤k∧k<14))):=by
 refine du A.mo A.Tv (by simp) ?_;show ko P (C7 A.oe) (lg _ _) _;by_cases h1:0≤k
 ·simp only[C7,go_sem,aa,reduceCtorEq,h1];refine Ao (aaz A) ?_;simp only[go_sem,aa,reduceCtorEq]
 simp only[C7,go_sem,aa,reduceCtorEq,h1,false_and]
theorem an1(k:Int):iq P A.Bb [.int ab k] (.Aa [.int ab (if 0≤k∧k<14 then kIn k.toNat else 0),.int ab (if 0≤k∧k<14 then 0 else 1)]):=by
 refine du A.mo A.a02 (by simp) ?_;show ko P (Ks A.o8 A.oe) (lg _ _) _;simp only[Ks,go_sem,aa,reduceCtorEq];refine ff (ako A k) ?_;by_cases h:0≤k∧k<14
 ·have hk:k.toNat<14:=by omega
  obtain⟨n,c,e⟩:=a9q A hk
  have h4:k.toNat*4+4≤56:=by omega
  simp only[go_sem,aa,h];refine Ao (aaz A) ?_;simp only[go_sem,aa,ae,ah,reduceCtorEq,h.1,h.2,Zo,h4,e]
 simp only[go_sem,aa,h]
theorem aqv{pr:List (List Sp)→Bool}(hpr:K1 A pr)(f:Ft)(hv:f.vs.length≤2^30)(h1:f.ls.length≤2^30)(h2:∀l∈f.ls,l.length≤2^30):iq P A.C2 [.agg (cFt f)] (.int ab (if tj pr f then 0 else 220)):=by
 refine du A.mo A.a2o (by simp) ?_;show ko P (Ms A.o8 A.oe A.lx A.xk A.Bz) (lg _ _) _;have hp:=hpr f.ls h1 h2
 have hc:=aqt A (l:=f.vs) (g:=A.xk) (iy:=[]) (p:=fun i=> !(Kk (f.vs.getD i v0))) (fun i hi=>by
  have e:f.vs.getD i v0=f.vs[i]:=by simp[cd,hi]
  rw[e];exact an6 A _) (by omega)
 have a7r:((dn f.vs.length).any fun i=> !(Kk (f.vs.getD i v0)))= !(a8p f.vs):=by
  unfold a8p;rw[agw]
  try simp
 rw[a7r]at hc;simp only[x6]at hc;simp only[lj]at hp;unfold tj;simp only[Ms,cFt,x6,lj,go_sem,aa,ae,ah];refine ff (ako A f.k) ?_;by_cases hk:0≤f.k∧f.k<14
 ·have hkn:f.k.toNat<14:=by omega
  obtain⟨n,c,e⟩:=a9q A hkn
  have h4:f.k.toNat*4+4≤56:=by omega
  simp only[go_sem,aa,ae,ah,hk,ag];refine Ao (aaz A) ?_;by_cases c1:(f.vs.length:Int)=Ib f.k.toNat
  ·have c1':((f.vs.length:Int) !=Ib f.k.toNat)=false:=by simp[c1]
   have aBv:((f.vs.length:Int)==Ib f.k.toNat)=true:=by simp[c1]
   simp only[go_sem,aa,ae,ah,reduceCtorEq,hk.1,hk.2,Zo,h4,e,c1',aBv];refine il hc ?_;cases c2:a8p f.vs
   ·simp only[go_sem,aa,dz]
   have hh:∀b:Bool,(f.k==1)=b→(f.k=1↔b=true):=fun b hb=>by rw[←hb];simp
   unfold a4u;cases p1:f.k==1
   ·cases p2:f.k==2
    ·cases p3:f.k==3
     ·by_cases c3:(0:Int)<f.ls.length
      ·have c3':((f.ls.length:Int)==0)=false:=beq_eq_false_iff_ne.2 (by omega);simp only[go_sem,aa,ae,ah,reduceCtorEq,p1,p2,p3,ag,c3,c3',Vj]
      have c3':((f.ls.length:Int)==0)=true:=beq_iff_eq.2 (by omega);simp only[go_sem,aa,ae,ah,reduceCtorEq,p1,p2,p3,ag,c3,c3',Vj]
     simp only[go_sem,aa,ae,ah,reduceCtorEq,p1,p2,p3,aJ8];refine ff hp ?_;cases c3:pr f.ls<;>simp only[go_sem,aa,jk,reduceCtorEq]
    simp only[go_sem,aa,ae,ah,reduceCtorEq,p1,p2,aJ8,Ho];refine ff hp ?_;cases c3:pr f.ls<;>simp only[go_sem,aa,jk,reduceCtorEq]
   simp only[go_sem,aa,ae,ah,reduceCtorEq,p1,Ho];refine ff hp ?_;cases c3:pr f.ls<;>simp only[go_sem,aa,jk,reduceCtorEq]
  have c1':((f.vs.length:Int) !=Ib f.k.toNat)=true:=by simp[c1]
  have aBv:((f.vs.length:Int)==Ib f.k.toNat)=false:=by simp[c1]
  simp only[go_sem,aa,ae,ah,reduceCtorEq,hk.1,hk.2,Zo,h4,e,c1',aBv,dz]
 simp only[go_sem,aa,hk,dz]
theorem avm{pr:List (List Sp)→Bool}(hpr:K1 A pr)(f:Ft)(l:List Pm)(hv:f.vs.length≤2^30)(h1:f.ls.length≤2^30)(h2:∀l∈f.ls,l.length≤2^30):
  iq P A.C1 [.agg (cFt f),jn l] (.int ab (if tj pr f then(if yd l then 0 else 1)else 220)):=by
 refine du A.mo A.a2m (by simp) ?_;show ko P (Mq A.C2 A.mz) (lg _ _) _;have hc:=aqv A hpr f hv h1 h2;have hp:=Vq A l;simp only[cFt,x6,lj]at hc;simp only[jn]at hp;simp only[Mq,cFt,x6,lj,jn,go_sem,aa,ae];refine ff hc ?_;cases c1:tj pr f
 ·simp only[go_sem,aa,jk,reduceCtorEq]
 simp only[go_sem,aa,jk,reduceCtorEq];refine ff hp ?_;simp only[go_sem,aa]
end
def Oi(n:ByteArray)(v:Int):List (ByteArray×Int)→List (ByteArray×Int)
 |[]=>[(n,v)]
 |(a,b)::r=>if kf n a then(n,v)::r else(a,b)::Oi n v r
def xu(n:ByteArray):List (ByteArray×Int)→Option Int
 |[]=>none
 |(a,b)::r=>if kf n a then some b else xu n r
def cE(e:ByteArray×Int):D×C:=(.str e.1,.d (.int ab e.2))
def Ia(l:List Pm):List (ByteArray×Int):=l.foldl (fun es p=>Oi p.n p.v es) []
theorem Ri(a b:ByteArray):kf a b=kf b a:=by
 unfold kf;rw[Sn,beq_iff_eq,beq_iff_eq];exact⟨Eq.symm,Eq.symm⟩
theorem a0n{a b:ByteArray}(c:ByteArray)(h:kf a b=true):kf a c=kf b c:=by rw[Xl h]
theorem ahw(n:ByteArray)(v:Int)(es:List (ByteArray×Int)):Mt (.one .str) (.str n) (C.d (.int ab v)) (es.map cE)=some ((Oi n v es).map cE):=by
 induction es with
 |nil=>rfl
 |cons e r ih=>
  obtain⟨a,b⟩:=e;simp only[gf,Oi]
  show(match Ep (.one .str) (.str n) (.str a)with|some true=>_|some false=>_|none=>_)=_
  have:Ep (.one .str) (.str n) (.str a)=some (kf n a):=by show some (n==a)=_;rw[alp]
  rw[this];cases kf n a
  ·simp only[ih,ir,fk,ee,gf];rfl
  simp only[dj,gf];rfl
theorem Y8(n:ByteArray)(es:List (ByteArray×Int)):Hc (.one .str) (.str n) (es.map cE)=some ((xu n es).map fun x=>C.d (.int ab x)):=by
 induction es with
 |nil=>rfl
 |cons e r ih=>
  obtain⟨a,b⟩:=e;simp only[gf,xu]
  show(match Ep (.one .str) (.str n) (.str a)with|some true=>_|some false=>_|none=>_)=_
  have:Ep (.one .str) (.str n) (.str a)=some (kf n a):=by show some (n==a)=_;rw[alp]
  rw[this];cases kf n a
  ·simp only[ih,fk,ee]
  simp only[dj];rfl
theorem ac6(n m:ByteArray)(v:Int)(es:List (ByteArray×Int)):xu n (Oi m v es)=if kf n m then some v else xu n es:=by
 induction es with
 |nil=>simp[Oi,xu]
 |cons e r ih=>
  obtain⟨a,b⟩:=e;simp only[Oi];cases h:kf m a
  ·simp only[fk,ee,xu,ih];cases h2:kf n a
   ·simp
   have:kf n m=false:=by rw[a0n m h2,Ri,h]
   simp[this]
  simp only[dj,xu];cases h2:kf n m
  ·have:kf n a=false:=by rw[Ri,←a0n n h,Ri,h2]
   simp[this]
  simp
theorem Rp(v:Vl)(l:List Pm):ov v l=match xu v.n (Ia l)with|some x=>(v.t*x+v.a,true)|none=>(v.a,isE v.n):=by
 have:∀r:List Pm,ov v r.reverse=match xu v.n (Ia r.reverse)with|some x=>(v.t*x+v.a,true)|none=>(v.a,isE v.n):=by
  intro r
  induction r with
  |nil=>rfl
  |cons p r ih=>
   have e1:ov v (r.reverse++[p])=Ou v (ov v r.reverse) p:=by unfold ov;rw[mc];rfl
   have e2:Ia (r.reverse++[p])=Oi p.n p.v (Ia r.reverse):=by unfold Ia;rw[mc];rfl
   rw[uy,e1,e2,ac6,ih];unfold Ou;rw[Ri p.n v.n];cases kf v.n p.n
   ·simp
   simp
 have h:=this l.reverse
 rwa[ug]at h
theorem anw{l:List Pm}{k:Nat}(h:k<l.length):Ia (l.take (k+1))=Oi l[k].n l[k].v (Ia (l.take k)):=by
 unfold Ia;rw[fm,mc];simp[h]
theorem Qz{n:ByteArray}:∀{es:List (ByteArray×Int)} {x:Int},xu n es=some x→∃a,(a,x)∈es∧kf n a=true:=by
 intro es
 induction es with
 |nil=>intro x h;cases h
 |cons e r ih=>
  intro x h;obtain⟨a,b⟩:=e;simp only[xu]at h;split at h
  ·rename_i hs;cases h;exact⟨a,by simp,hs⟩
  obtain⟨a',h1,h2⟩:=ih h;exact⟨a',by simp[h1],h2⟩
theorem a4b{n:ByteArray}{v:Int}:∀{es:List (ByteArray×Int)} {e:ByteArray×Int},e∈Oi n v es→e=(n,v)∨e∈es:=by
 intro es
 induction es with
 |nil=>intro e h;simp[Oi]at h;exact .inl h
 |cons x r ih=>
  intro e h;obtain⟨a,b⟩:=x;simp only[Oi]at h;split at h
  ·rcases dq.1 h with h|h
   ·exact .inl h
   exact .inr (by simp[h])
  rcases dq.1 h with h|h
  ·exact .inr (by simp[h])
  rcases ih h with h|h
  ·exact .inl h
  exact .inr (by simp[h])
theorem Y6(l:List Pm):∀e∈Ia l,∃p∈l,e=(p.n,p.v):=by
 have:∀r:List Pm,∀e∈Ia r.reverse,∃p∈r,e=(p.n,p.v):=by
  intro r
  induction r with
  |nil=>intro e h;simp[Ia]at h
  |cons p r ih=>
   intro e h
   have e2:Ia (r.reverse++[p])=Oi p.n p.v (Ia r.reverse):=by unfold Ia;rw[mc];rfl
   rw[uy,e2]at h;rcases a4b h with h|h
   ·exact⟨p,by simp,h⟩
   obtain⟨q,hq,he⟩:=ih e h;exact⟨q,by simp[hq],he⟩
 intro e he;have h:=this l.reverse e (by rw[ug];exact he);obtain⟨p,hp,hh⟩:=h;exact⟨p,by simpa using hp,hh⟩
theorem Pw{l:List Pm}(h:yd l=true):∀p∈l,xf p.n=true∧Py p.v=true:=by
 unfold yd at h;simp only[cj,decide_eq_true_eq]at h;intro p hp;obtain⟨i,hi,rfl⟩:=i6.1 hp;have:=cz.1 h.2 i (ep.2 hi);unfold a7l at this;simp only[ax hi,cj]at this;exact⟨this.1,this.2.1⟩
theorem aev{n:ByteArray}(h:xf n=true):isE n=false:=by
 cases he:isE n
 ·rfl
 have:kf n ⟨#[]⟩=true:=he;have:=Xl this;subst this
 have h0:xf ⟨#[]⟩=false:=by decide+kernel
 rw[h0]at h;cases h
theorem aoh{l:List Pm}(h:yd l=true){n:ByteArray}(he:isE n=true):xu n (Ia l)=none:=by
 cases hg:xu n (Ia l)with
 |none=>rfl
 |some x=>
  obtain⟨a,h1,h2⟩:=Qz hg;obtain⟨p,hp,e⟩:=Y6 l _ h1;have h3:=aev (Pw h p hp).1;cases e
  have:isE n=isE p.n:=by rw[Xl h2]
  rw[this,h3]at he;cases he
section
variable{P:Program}(A:Pr P)
theorem ahg{pr:List (List Sp)→Bool}(f:Ft)(l:List Pm)(c1:tj pr f=true)(c2:yd l=true):iq P A.zq [.agg (cFt f),jn l] (.Aa [if(p8 pr f l).1.map ve=[]then .cq else .ft 1 ((p8 pr f l).1.map ve),.int ab (p8 pr f l).2]):=by
 refine du A.mo A.Yi (by simp) ?_;show ko P Je (lg _ _) _
 have hN:p8 pr f l=if f.vs.all (fun v=>(ov v l).2)then(f.vs.map fun v=>(ov v l).1,0)else([],4):=by
  unfold p8;rw[al (by rw[c1];simp),al (by rw[c2];simp)]
 rw[hN];have hfl:=R2 c1;obtain⟨hpl,hpv⟩:=Xw c2;simp only[Je,cFt,x6,lj,jn,go_sem,aa,ae];refine r9 (fun s'=>s'.base=0∧s'.tmp 2= .ic 2 (s'.av 2) 0∧s'.da 2=some (.loc [.d (.int ab f.k),.d (.ft 3 (f.vs.map cVl)),.d (.ft 1 (f.ls.map fun l=>[vz l]))])∧s'.tmp 6= .kj 14 (s'.av 14)∧s'.mp 14=some ((Ia l).map cE)) ?_ ?_
 ·refine fh l.length (fun k s'=>s'.base=0∧s'.tmp 2= .ic 2 (s'.av 2) 0∧s'.da 2=some (.loc [.d (.int ab f.k),.d (.ft 3 (f.vs.map cVl)),.d (.ft 1 (f.ls.map fun l=>[vz l]))])∧s'.tmp 6= .kj 14 (s'.av 14)∧s'.mp 14=some ((Ia (l.take k)).map cE)∧
   s'.tmp 15= .d (.ft 2 (l.map tx))∧s'.tmp 16= .d (.int ab l.length)∧s'.tmp 17= .d (.int ab k)) ?_ ?_
  ·simp only[go_sem,aa,ag];rfl
  rintro k s' hk ⟨eb,f2,b2,f6,m6,f15,f16,f17⟩;by_cases hlt:(k:Int)<l.length
  ·have df:k<l.length:=by omega
   have wk:=cu ((k:Int)+1) (by omega) (by omega);have hm:=anw df;simp only[go_sem,aa,ae,ah,reduceCtorEq,eb,f2,b2,f6,m6,f15,f16,f17,hlt,Yu df,bp,aq,PS.ents,ahw,wk,df,hm]
   try simp
  have:k=l.length:=by omega
  subst this;rw[dt]at m6;simp only[go_sem,aa,reduceCtorEq,eb,f2,b2,f6,m6,f16,f17,hlt]
 rintro s' ⟨eb,f2,b2,f6,m6⟩;simp only[go_sem,aa,ae,ah,eb,f2,b2]
 refine fh f.vs.length (fun i s'=>s'.base=0∧s'.tmp 2= .ic 2 (s'.av 2) 0∧s'.da 2=some (.loc [.d (.int ab f.k),.d (.ft 3 (f.vs.map cVl)),.d (.ft 1 (f.ls.map fun l=>[vz l]))])∧s'.tmp 6= .kj 14 (s'.av 14)∧s'.mp 14=some ((Ia l).map cE)∧
  s'.tmp 28= .d (.ft 3 (f.vs.map cVl))∧s'.tmp 29= .d (.int ab f.vs.length)∧s'.tmp 30= .d (.int ab i)∧
  se s' 60 1 (((f.vs.take i).map fun v=>(ov v l).1).map ve) (s'.tmp 9)∧∀i',i'<i→(ov (f.vs.getD i' v0) l).2=true) ?_ ?_
 ·simp only[go_sem,aa,f2,b2,f6,m6,ag];exact⟨se.nil,by simp⟩
 clear eb f2 b2 f6 m6;rintro i s' hi ⟨eb,f2,b2,f6,m6,f28,f29,f30,acc,hI⟩;by_cases hlt:(i:Int)<f.vs.length
 ·have df:i<f.vs.length:=by omega
  have wi:=cu ((i:Int)+1) (by omega) (by omega);have hvi:=Wx c1 i df
  have hgi:f.vs.getD i v0=f.vs[i]:=by simp[cd,df]
  have hg:=Yt df;obtain⟨⟨t1,t2⟩,a1,a2⟩:=a3k hvi;have hna:=Rp (f.vs.getD i v0) l;have hge:=fun h=>aoh c2 (n:=(f.vs.getD i v0).n) h
  have aGr:∀x,xu (f.vs.getD i v0).n (Ia l)=some x→-1000000≤x∧x≤1000000:=fun x hx=>by
   obtain⟨a,h1,_⟩:=Qz hx;obtain⟨p,hp,e⟩:=Y6 l _ h1;cases e;exact a4h (Pw c2 p hp).2
  have axu:(ov (f.vs.getD i v0) l).2=false→f.vs.all (fun v=>(ov v l).2)=false:=fun h=>by
   rw[a2v];exact⟨f.vs[i],cy df,by rw[←hgi,h];simp⟩
  generalize hvv:f.vs.getD i v0=v at*
  simp only[go_sem,aa,ae,ah,reduceCtorEq,eb,f6,m6,f28,f29,f30,hlt,hg,bp,aq,Cj,PS.ents,Y8]
  cases c4:xu v.n (Ia l)with
  |some x=>
   rw[c4]at hna
   have hne:isE v.n=false:=by
    cases h:isE v.n
    ·rfl
    rw[hge h]at c4;cases c4
   have asm:=hne;unfold isE at asm;have m1:=ax5 ⟨t1,t2⟩ (x:=v.t) (y:=x) (aGr x c4);have w1:=cu (v.t*x) (by omega) (by omega);have w2:=cu (v.t*x+v.a) (by omega) (by omega)
   have e1:(((f.vs.take (i+1)).map fun v=>(ov v l).1).map ve)=((f.vs.take i).map fun v=>(ov v l).1).map ve++[ve (v.t*x+v.a)]:=by
    rw[fm,fu,fu];simp[df,←hgi,hna]
   simp only[go_sem,aa,ae,ah,reduceCtorEq,dh,asm,ez,w1,w2];refine s5 (dd:=((f.vs.take i).map fun v=>(ov v l).1).map ve) (ys:=[ve (v.t*x+v.a)]) (osz:=some 1) ?_ ?_ rfl (by simp[ve,D.one]) ?_ (by simp) ?_
   ·simp only[go_sem,aa];exact acc.mono (by simp[ak]) (by simp[ak])
   ·simp only[go_sem,aa,qm];rfl
   ·simp only[ag,ca,ed,dw];omega
   intro s3 g;have Fv:=g.acc (by simp);rw[g.tmp,ck]at Fv;simp only[fj]at Fv;have gv:=g.av 2 (by simp);have asx:=g.av 14 (by simp)
   have gb:s3.da 2=s'.da 2:=by rw[g.da];simp[ak]
   have gm:s3.mp 14=s'.mp 14:=by rw[g.mp]
   simp only[ak,aa,reduceIte]at gv asx;simp only[go_sem,aa,reduceCtorEq,g.tmp,f2,f6,f28,f29,f30,gm,m6,g.base,gb,gv,asx,b2,e1,wi,df];exact⟨by simp,Fv.mono rfl rfl,qf hI (by rw[hvv,hna])⟩
  |none=>
   rw[c4]at hna;cases hE:isE v.n
   ·have hE':=hE;unfold isE at hE';simp only[hE]at hna;simp only[go_sem,aa,ae,ah,hE',ez,axu (by rw[hna])]
   have hE':=hE;unfold isE at hE';simp only[hE]at hna
   have aDi:ov v l=(v.t*0+v.a,true):=by rw[hna];simp
   have m1:=ax5 ⟨t1,t2⟩ (x:=v.t) (y:=0) (by omega);have w1:=cu (v.t*0) (by omega) (by omega);have w2:=cu (v.t*0+v.a) (by omega) (by omega)
   have e1:(((f.vs.take (i+1)).map fun v=>(ov v l).1).map ve)=((f.vs.take i).map fun v=>(ov v l).1).map ve++[ve (v.t*0+v.a)]:=by
    rw[fm,fu,fu];simp[df,←hgi,aDi]
   simp only[go_sem,aa,ae,ah,reduceCtorEq,dh,hE',ez,w1,w2];refine s5 (dd:=((f.vs.take i).map fun v=>(ov v l).1).map ve) (ys:=[ve (v.t*0+v.a)]) (osz:=some 1) ?_ ?_ rfl (by simp[ve,D.one]) ?_ (by simp) ?_
   ·simp only[go_sem,aa];exact acc.mono (by simp[ak]) (by simp[ak])
   ·simp only[go_sem,aa,qm];rfl
   ·simp only[ag,ca,ed,dw];omega
   intro s3 g;have Fv:=g.acc (by simp);rw[g.tmp,ck]at Fv;simp only[fj]at Fv;have gv:=g.av 2 (by simp);have asx:=g.av 14 (by simp)
   have gb:s3.da 2=s'.da 2:=by rw[g.da];simp[ak]
   have gm:s3.mp 14=s'.mp 14:=by rw[g.mp]
   simp only[ak,aa,reduceIte]at gv asx;simp only[go_sem,aa,reduceCtorEq,g.tmp,f2,f6,f28,f29,f30,gm,m6,g.base,gb,gv,asx,b2,e1,wi,df];exact⟨by simp,Fv.mono rfl rfl,qf hI (by rw[hvv,aDi])⟩
 have:i=f.vs.length:=by omega
 subst this;rw[dt]at acc
 have hall:f.vs.all (fun v=>(ov v l).2)=true:=by
  rw[cz];intro v hv;obtain⟨i,hi,rfl⟩:=i6.1 hv;have:=hI i hi;simpa[cd,hi]using this
 rw[hall];simp only[go_sem,aa,reduceCtorEq,eb,f29,f30,hlt];rcases acc with ⟨a1,a2⟩|⟨a1,a2,a3⟩
 ·simp only[go_sem,a1,a2]
 rw[al a1,a2];simp only[go_sem,a3,ag]
theorem a3y{pr:List (List Sp)→Bool}(hpr:K1 A pr)(f:Ft)(l:List Pm)(hv:f.vs.length≤2^30)(h1:f.ls.length≤2^30)(h2:∀l∈f.ls,l.length≤2^30):iq P A.pn [.agg (cFt f),jn l] (a6c (p8 pr f l)):=by
 have main:iq P A.pn [.agg (cFt f),jn l] (.Aa [if(p8 pr f l).1.map ve=[]then .cq else .ft 1 ((p8 pr f l).1.map ve),.int ab (p8 pr f l).2]):=by
  refine du A.mo A.Yj (by simp) ?_;show ko P (Jf A.C1 A.zq) (lg _ _) _;have hw:=avm A hpr f l hv h1 h2;have hn:=fun c1 c2=>ahg A f l (pr:=pr) c1 c2;simp only[cFt,x6,lj,jn]at hw hn;simp only[Jf,cFt,x6,lj,jn,go_sem,aa,ae];refine il hw ?_;cases c1:tj pr f
  ·have:p8 pr f l=([],220):=by unfold p8;rw[bm c1]
   rw[this];simp only[go_sem,aa,jk,reduceCtorEq]
  cases c2:yd l
  ·have:p8 pr f l=([],1):=by unfold p8;rw[al (by rw[c1];simp),bm c2]
   rw[this];simp only[go_sem,aa,jk,reduceCtorEq]
  simp only[go_sem,aa,jk,ae,reduceCtorEq];refine il (hn c1 c2) ?_;simp only[go_sem,aa]
 generalize p8 pr f l=x at main⊢;refine main.M7 fun G v hv=>?_;split at hv
 ·rename_i he;unfold a6c;rw[he];exact adg G v hv
 exact hv
end
theorem Wk.te{xs ys:List D}{o:Nat}(hl:xs.length=ys.length)(h:∀(i:Nat) (x y:D),xs[i]? =some x→ys[i]? =some y→Wk x y):Wk (.te xs o) (.te ys o):=by
 intro G v hv
 cases hv with
 | @te _ b p _ k1 k2=>
  refine .te (fun j hj=>k1 j (by omega)) fun j y u hy hu=>?_
  have hj:j<xs.length:=by have:=(aw.1 hy).1;omega
  exact h j _ y (ax hj) hy G u (k2 j _ u (ax hj) hu)
theorem Wk.nu{f:Nat}{xs ys:List D}(hl:xs.length=ys.length)(h:∀(i:Nat) (x y:D),xs[i]? =some x→ys[i]? =some y→Wk x y):Wk (.nu f xs) (.nu f ys):=by
 intro G v hv
 cases hv with
 | @nu _ _ vs k1 k2=>
  refine .nu (by omega) fun j y u hy hu=>?_
  have hj:j<xs.length:=by have:=(aw.1 hy).1;omega
  exact h j _ y (ax hj) hy G u (k2 j _ u (ax hj) hu)
theorem Wk.one{x y:D}(h:Wk x y):∀(i:Nat) (a b:D),[x][i]? =some a→[y][i]? =some b→Wk a b:=by
 intro i a b ha hb
 match i with
 |0=>simp at ha hb;subst ha hb;exact h
 |i+1=>simp at ha
def Lp(ns:List Nd)(s:ByteArray):Int:=xi (fun i=>kf (ns.getD i n0).n s) ns.length
def a9j(ns:List Nd)(s:ByteArray):D:=if 0≤Lp ns s then .te (wz (ns.getD (Lp ns s).toNat n0)) 0 else .Wc
theorem a5c(ns:List Nd)(s:ByteArray):St ns s=decide (0≤Lp ns s):=by
 have:decide (0≤Lp ns s)=decide (Lp ns s≥0):=rfl;unfold Lp at this⊢;rw[this,R1];unfold St;rw[Sn,A9,A9];constructor
 ·rintro⟨n,hn,h⟩;obtain⟨i,hi,rfl⟩:=jd hn;exact⟨i,ep.2 hi,by simpa[cd,hi]using h⟩
 rintro⟨i,hi,h⟩;have hi:=ep.1 hi;exact⟨ns[i],cy hi,by simpa[cd,hi]using h⟩
def a2s(ns:List Nd)(out:List ByteArray)(i:Nat):Bool:= !hasB out (ns.getD i n0).n&&Kl (ns.getD i n0) out
def Kc(ns:List Nd)(out:List ByteArray):Int:=xi (a2s ns out) ns.length
def Lb(ns:List Nd):Nat→List ByteArray→List ByteArray
 |0,out=>out
 |k+1,out=>if Kc ns out<0 then out else Lb ns k (out++[(ns.getD (Kc ns out).toNat n0).n])
def nf(ns:List Nd):List ByteArray:=Lb ns (ns.length+1) []
theorem anq{ns:List Nd}{out:List ByteArray}(h:¬Kc ns out<0):Sd ns (out++[(ns.getD (Kc ns out).toNat n0).n])<Sd ns out:=by
 rcases Fy (a2s ns out) ns.length with ⟨h1,_⟩|⟨k,hk,hp,he,_⟩
 ·unfold Kc at h;rw[h1]at h;omega
 have e:Kc ns out=k:=he;rw[e,bp]
 have hg:ns.getD k n0=ns[k]:=by simp[cd,hk]
 unfold a2s at hp;rw[hg]at hp⊢;simp only[cj,pz]at hp;unfold Sd;refine alh (n:=ns[k]) (fun m hm=>?_) ?_ ?_ ns (cy hk)
 ·simp only[pz]at hm⊢;rw[Ow]at hm;simp only[Rc]at hm;exact hm.1
 ·rw[Ow,Hq];simp
 simp[hp.1]
section
variable{P:Program}(A:Pr2 P)
theorem aqd(t:Tr)(s:ByteArray)(hl:t.ns.length≤2^50):iq P A.oz [.agg (r8 t),.str s] (a9j t.ns s):=by
 refine du A.mo A.Vc (by simp) ?_;show ko P Gm (lg _ _) _;simp only[Gm,r8,jn,l7,go_sem,aa,ae]
 refine fh t.ns.length (fun i s'=>s'.base=0∧s'.tmp 2= .ic 2 (s'.av 2) 0∧s'.da 2=some (.loc [.d (.ft 2 (t.ps.map tx)),.d (.ft 5 (t.ns.map wz))])∧s'.tmp 1= .d (.str s)∧s'.tmp 8= .d (.int ab t.ns.length)∧s'.tmp 9= .d (.int ab i)∧
  ∀i',i'<i→kf (t.ns.getD i' n0).n s=false) ?_ ?_
 ·simp only[go_sem,aa,ag]
  try simp
 rintro i s' hi ⟨eb,f2,b2,f1,f8,f9,hI⟩;by_cases hlt:(i:Int)<t.ns.length
 ·have df:i<t.ns.length:=by omega
  have wi:=cu ((i:Int)+1) (by omega) (by omega);have hg:=Fe df;cases c1:kf (t.ns.getD i n0).n s
  ·have c1':=c1;unfold kf at c1';simp only[go_sem,aa,ae,ah,reduceCtorEq,eb,f2,b2,f1,f8,f9,hlt,hg,bp,aq,c1',wi,df];exact⟨by simp,qf hI c1⟩
  have c1':=c1;unfold kf at c1';have e:Lp t.ns s=i:=Iq (p:=fun i=>kf (t.ns.getD i n0).n s) df c1 hI;simp only[go_sem,aa,ae,ah,reduceCtorEq,eb,f2,b2,f1,f8,f9,hlt,hg,bp,aq,c1'];unfold a9j;rw[e,bm (aq i),bp];rfl
 have:i=t.ns.length:=by omega
 subst this;have e:Lp t.ns s= -1:=Oz (p:=fun i=>kf (t.ns.getD i n0).n s) hI;simp only[go_sem,aa,reduceCtorEq,eb,f8,f9,hlt];unfold a9j;rw[e];rfl
theorem aqw(t:Tr)(s:ByteArray)(hl:t.ns.length≤2^50):iq P A.tp [.str s,.te (r8 t) 0] (.bool !(St t.ns s)):=by
 refine du A.mo A.Yd (by simp) ?_;show ko P (J9 A.oz) (lg _ _) _;have h:=aqd A t s hl;simp only[r8,jn,l7]at h;simp only[J9,r8,jn,l7,go_sem,aa,ae,reduceCtorEq];refine il h ?_;rw[a5c];unfold a9j;by_cases c:0≤Lp t.ns s
 ·simp only[go_sem,aa,c]
 simp only[go_sem,aa,c]
theorem amp(s:ByteArray)(out:List ByteArray)(hl:out.length≤2^50):iq P A.pq [.str s,.te [nr out] 0] (.bool !(hasB out s)):=by
 refine du A.mo A.Q2 (by simp) ?_;show ko P (Cm A.lh) (lg _ _) _;have h:=Ta A.toPr out s hl;simp only[nr]at h;simp only[Cm,nr,go_sem,aa,reduceCtorEq];refine il h ?_;simp only[go_sem,aa]
theorem aqc(n:Nd)(out:List ByteArray)(hl:out.length≤2^50)(hi:n.ins.length≤2^40):iq P A.ny [.agg (wz n),.te [nr out] 0] (.bool (!hasB out n.n&&Kl n out)):=by
 refine du A.mo A.Rv (by simp) ?_;show ko P (Eb A.lh A.pq A.jy) (lg _ _) _;have h:=Ta A.toPr out n.n hl
 have h2:=a98 A.toPr (l:=n.ins) (g:=A.pq) (iy:=[.te [nr out] 0]) (p:=fun i=> !(hasB out (n.ins.getD i ⟨#[]⟩))) (fun i hi=>by
  have e:n.ins.getD i ⟨#[]⟩=n.ins[i]:=by simp[cd,hi]
  rw[e];exact amp A _ _ hl) (by omega)
 have a7r:((dn n.ins.length).any fun i=> !(hasB out (n.ins.getD i ⟨#[]⟩)))= !(Kl n out):=by
  unfold Kl;rw[agw];simp
 rw[a7r]at h2;simp only[nr]at h h2;simp only[Eb,wz,x6,lj,nr,go_sem,aa,ae,ah];refine il h ?_;cases c1:hasB out n.n
 ·simp only[go_sem,aa,ae];refine il h2 ?_;simp only[go_sem,aa,Bool.not_not]
 simp only[go_sem,aa,dz]
theorem adt(t:Tr)(hn:t.ns.length≤1000)(hi:∀n∈t.ns,n.ins.length≤2^40):iq P A.mg [.agg (r8 t)] (nr (nf t.ns)):=by
 have main:iq P A.mg [.agg (r8 t)] (yc 1 ((nf t.ns).map nh)):=by
  refine du A.mo A.Tp (by simp) ?_;show ko P (Fo A.ny A.j4) (lg _ _) _
  have h0:Sd t.ns []≤t.ns.length:=by unfold Sd;exact zg _ _
  simp only[Fo,r8,jn,l7,go_sem,aa,ae]
  refine fh t.ns.length (fun i s'=>∃(out:List ByteArray) (c:C),s'.base=0∧s'.tmp 1= .ic 1 (s'.av 1) 0∧s'.da 1=some (.loc [.d (.ft 2 (t.ps.map tx)),.d (.ft 5 (t.ns.map wz))])∧s'.tmp 3= .ic 3 (s'.av 3) 0∧s'.da 3=some (.loc [c])∧a0j s' 20 1 (out.map nh) c∧
   Sd t.ns out+i≤t.ns.length∧out.length=i∧Lb t.ns (t.ns.length+1-i) out=nf t.ns) ?_ ?_
  ·simp only[go_sem,aa];exact⟨[],.d .cq,rfl,a0j.nil,h0,rfl,rfl⟩
  rintro i s' Ds ⟨out,c,eb,f1,b1,f3,b3,acc,ho,hol,hor⟩
  have aby:=ae2 A.toPr (l:=t.ns) (g:=A.ny) (iy:=[.te [yc 1 (out.map nh)] 0]) (p:=a2s t.ns out) (fun j hj=>by
   have e:t.ns.getD j n0=t.ns[j]:=by simp[cd,hj]
   unfold a2s;rw[e];refine(aqc A t.ns[j] out (by omega) (hi _ (cy hj))).args rfl fun a x y hx hy=>?_
   match a with
   |0=>simp at hx hy;subst hx hy;exact Wk.refl _
   |1=>simp at hx hy;subst hx hy;exact Wk.te rfl (Wk.one Jz)
   |a+2=>simp at hx) (by omega)
  simp only[l7]at aby
  have Dw:∀(K:PS→Prop) (r:List RI) (s2:PS),s2.cs 3 (s'.av 3)=some [c]→s2.dd 20 (s'.av 20)=s'.dd 20 (s'.av 20)→s2.av 20=s'.av 20→l5 P r (s2.put (some 8) (.d (.int ab (Kc t.ns out)))) K→
    F9 P A.j4 [.d (.ft 5 (t.ns.map wz)),.nu A.ny [(3,s'.av 3)]] [] false (some 8) s2 (Ab P r K):=by
   intro K r s2 h1 h2 h3 h4;refine⟨[.ft 5 (t.ns.map wz),.nu A.ny [.te [yc 1 (out.map nh)] 0]],_,?_,aby.toC,.inl rfl,h4⟩;simp only[J0,snap,h1,nj];rcases acc with ⟨a1,rfl⟩|⟨a1,rfl,a3⟩
   ·simp only[rb,yc,a1,dj,ir]
   have e1:s'.dd 20 (s'.av 20)=some (1,out.map nh):=by unfold PS.dd;rw[bm rfl,a3]
   simp only[rb,h2,e1,yc,a1,ee,dj,ir]
  by_cases hne:Kc t.ns out<0
  ·have Nb:nf t.ns=out:=by
    rw[←hor,show t.ns.length+1-i=(t.ns.length-i)+1 by omega,Lb,bm hne]
   simp only[go_sem,aa,ae,eb,f1,b1,f3];refine Dw _ _ _ (by simp[PS.cs,b3]) rfl rfl ?_;simp only[go_sem,aa,reduceCtorEq,f3,b3,hne,Nb];rcases acc with ⟨a1,rfl⟩|⟨a1,rfl,a3⟩
   ·simp only[go_sem,yc,a1]
   simp only[go_sem,yc,a1,a3]
  have hop:=anq hne
  obtain⟨k,hk,hnx⟩:∃k,k<t.ns.length∧Kc t.ns out=k:=by
   rcases Fy (a2s t.ns out) t.ns.length with ⟨h1,_⟩|⟨k,hk,hp,he,_⟩
   ·unfold Kc at hne;rw[h1]at hne;omega
   exact⟨k,hk,he⟩
  have hg:=Fe hk
  have alb:Lb t.ns (t.ns.length+1-(i+1)) (out++[(t.ns.getD k n0).n])=nf t.ns:=by
   rw[←hor,show t.ns.length+1-i=(t.ns.length+1-(i+1))+1 by omega]
   conv=>rhs;rw[Lb,al hne,hnx,bp]
  rw[hnx,bp]at hop;rw[hnx]at hne;simp only[go_sem,aa,ae,eb,f1,b1,f3];refine Dw _ _ _ (by simp[PS.cs,b3]) rfl rfl ?_;rw[hnx];simp only[go_sem,aa,ae,ah,reduceCtorEq,dh,f1,b1,f3,b3,hne,hg,bp,aq];refine s5 (dd:=out.map nh) (ys:=[nh (t.ns.getD k n0).n]) (osz:=some 1) ?_ ?_ rfl (by simp[nh,D.one]) ?_ (by simp) ?_
  ·simp only[go_sem,aa];have:=acc.acc;cases c<;>exact this.mono (by simp[]) (by simp[])
  ·simp only[go_sem,aa,qm,nh]
  ·simp only[ag,ca,ed];omega
  intro s3 g;have gv1:=g.av 1 (by simp);have gv3:=g.av 3 (by simp)
  have gb1:s3.da 1=s'.da 1:=by rw[g.da];simp[ak]
  have gb3:s3.da 3=s'.da 3:=by rw[g.da];simp[ak]
  have aE7:s3.da 20=some (.arr 1 (out.map nh++[nh (t.ns.getD k n0).n])):=by rw[g.da];simp[ak]
  have gt:=g.tmp;simp only[fj]at gt;simp only[]at gv1 gv3;simp only[go_sem,aa,gt,f1,f3,g.base,gv1,gv3,gb1,gb3,aE7,b1,b3,gq];refine⟨by omega,out++[(t.ns.getD k n0).n],_,rfl,.inr ⟨by simp,?_,?_⟩,by omega,by simp[hol],alb⟩
  ·simp
  simp[aE7,ak]
 exact main.M7 Jz
end
theorem acq:∀(x y:List UInt8),alw x y=decide (x<y):=by
 intro x
 induction x with
 |nil=>
  intro y
  cases y with
  |nil=>rfl
  |cons b y=>simp[alw]
 |cons a x ih=>
  intro y
  cases y with
  |nil=>simp[alw]
  |cons b y=>
   simp only[alw,ih,List.cons_lt_cons_iff];rw[Sn];simp
theorem Qf(a b:ByteArray):strLt a b=decide (a.toList<b.toList):=acq _ _
theorem Oq{a b c:ByteArray}(h:strLt a b=true)(k:strLt b c=true):strLt a c=true:=by
 rw[Qf,decide_eq_true_eq]at*
 exact List.lt_trans h k
theorem T8{a b:ByteArray}(h:strLt a b=true):strLt b a=false:=by
 rw[Qf,decide_eq_true_eq]at h;rw[Qf,decide_eq_false_iff_not];exact List.lt_asymm h
def ad4:List Nd→Prop
 |[]=>True
 |n::r=>isE n.n=false∧(∀m∈r,strLt n.n m.n=true)∧ad4 r
theorem anc{ns:List Nd}(h1:∀n∈ns,isE n.n=false)(h2:∀i (_:i+1<ns.length),strLt (ns[i]'(by omega)).n (ns[i+1]).n=true):ad4 ns:=by
 induction ns with
 |nil=>trivial
 |cons n r ih=>
  refine⟨h1 n (by simp),?_,ih (fun m hm=>h1 m (by simp[hm])) fun i hi=>?_⟩
  ·have:∀k (hk:k<r.length),strLt n.n (r[k]).n=true:=by
    intro k
    induction k with
    |zero=>intro hk;exact h2 0 (by simp;omega)
    |succ k ihk=>
     intro hk;refine Oq (ihk (by omega)) ?_;have:=h2 (k+1) (by simp;omega);simpa using this
   intro m hm;obtain⟨k,hk,rfl⟩:=jd hm;exact this k hk
  have:=h2 (i+1) (by simp;omega);simpa using this
def aco(out:List ByteArray)(n:Nd):Bool:= !hasB out n.n&&Kl n out
theorem aom{out:List ByteArray}{b:ByteArray}(hb:isE b=false):∀{l:List Nd},(∀m∈l,strLt b m.n=true)→l.foldl (o9 out) b=b:=by
 intro l
 induction l with
 |nil=>intro _;rfl
 |cons n r ih=>
  intro h
  have e:o9 out b n=b:=by
   unfold o9;rw[hb,T8 (h n (by simp))];simp
  rw[qe,e];exact ih fun m hm=>h m (by simp[hm])
theorem aon{out:List ByteArray}:∀{l:List Nd},ad4 l→l.foldl (o9 out) ⟨#[]⟩=match l.find? (aco out)with|some n=>n.n|none=>⟨#[]⟩:=by
 intro l
 induction l with
 |nil=>intro _;rfl
 |cons n r ih=>
  rintro⟨h1,h2,h3⟩;rw[qe,List.find?_cons]
  have he:isE ⟨#[]⟩=true:=by decide+kernel
  cases hc:aco out n
  ·have e:o9 out ⟨#[]⟩ n=⟨#[]⟩:=by
    unfold o9;unfold aco at hc;rw[he,Ho,Gy,hc];rfl
   rw[e];exact ih h3
  have e:o9 out ⟨#[]⟩ n=n.n:=by
   unfold o9;unfold aco at hc;rw[he,Ho,Gy,hc];rfl
  rw[e];exact aom h1 h2
theorem aoq(ns:List Nd)(out:List ByteArray):(Kc ns out<0∧ns.find? (aco out)=none)∨(¬Kc ns out<0∧ns.find? (aco out)=some (ns.getD (Kc ns out).toNat n0)):=by
 rcases Fy (a2s ns out) ns.length with ⟨h1,h2⟩|⟨k,hk,hp,he,hb⟩
 ·refine .inl ⟨by unfold Kc;omega,X8.2 fun n hn=>?_⟩;obtain⟨i,hi,rfl⟩:=jd hn;have:=h2 i hi;unfold a2s at this
  have e:ns.getD i n0=ns[i]:=by simp[cd,hi]
  rw[e]at this;unfold aco;simp[this]
 have e:Kc ns out=k:=he
 have eg:ns.getD k n0=ns[k]:=by simp[cd,hk]
 refine .inr ⟨by omega,?_⟩;rw[e,bp,eg];refine Z3.2 ⟨?_,ns.take k,ns.drop (k+1),?_,fun m hm=>?_⟩
 ·unfold a2s at hp;rw[eg]at hp;exact hp
 ·rw[←jq hk,Gv]
 obtain⟨i,hi,rfl⟩:=jd hm
 have hik:i<k:=by simp at hi;omega
 have:=hb i hik;unfold a2s at this
 have e:ns.getD i n0=ns[i]:=by
   have:i<ns.length:=by omega
   simp[cd,this]
 rw[e]at this;unfold aco;rw[a2u];simp[this]
theorem ai1{ns:List Nd}(h:ad4 ns)(hne:∀n∈ns,isE n.n=false):∀k out,W9 ns k out=Lb ns k out:=by
 intro k
 induction k with
 |zero=>intro out;rfl
 |succ k ih=>
  intro out
  have hb:Oa ns out=match ns.find? (aco out)with|some n=>n.n|none=>⟨#[]⟩:=aon h
  rw[W9,Lb];rcases aoq ns out with ⟨h1,h2⟩|⟨h1,h2⟩
  ·rw[h2]at hb
   have he:isE ⟨#[]⟩=true:=by decide+kernel
   rw[hb,bm he,bm h1]
  rw[h2]at hb;have hm:ns.getD (Kc ns out).toNat n0∈ns:=Ug h2;rw[hb];simp only;rw[hne _ hm,al (by simp),al h1];exact ih _
theorem abk{pr:List (List Sp)→Bool}{t:Tr}{i:Nat}(h:zw pr t i=true):xf (t.ns.getD i n0).n=true∧ui (t.ns.map Nd.n) i=true∧tj pr (t.ns.getD i n0).f=true:=by
 unfold zw at h;simp only[cj]at h;exact⟨h.1,h.2.1,h.2.2.1⟩
theorem a4e{t:Tr}(h1:∀i,i<t.ns.length→xf (t.ns.getD i n0).n=true)(h2:∀i,i<t.ns.length→ui (t.ns.map Nd.n) i=true):Hl t.ns=nf t.ns:=by
 have hne:∀n∈t.ns,isE n.n=false:=by
  intro n hn;obtain⟨i,hi,rfl⟩:=jd hn;have:=h1 i hi
  have e:t.ns.getD i n0=t.ns[i]:=by simp[cd,hi]
  rw[e]at this;exact aev this
 refine ai1 (anc hne fun i hi=>?_) hne _ _;have:=h2 (i+1) hi;unfold ui at this
 have e1:i<t.ns.length:=by omega
 simpa[hi,e1]using this
section
variable{P:Program}(A:Pr2 P)
theorem Tb{pr:List (List Sp)→Bool}(hpr:K1 A.toPr pr)(t:Tr)(hs:M3 t):iq P A.jl [.agg (r8 t)] (.int ab (if yf pr t then 0 else 230)):=by
 refine du A.mo A.a2b (by simp) ?_;show ko P (Mf A.mz A.ju A.pn A.Bb A.tp A.jy A.mg) (lg _ _) _;obtain⟨hs1,hs2⟩:=hs;have hrp:=Vq A.toPr t.ps;simp only[jn]at hrp;unfold yf;simp only[Mf,r8,jn,l7,go_sem,aa,ae,ah];refine ff hrp ?_;cases c1:yd t.ps
 ·simp only[go_sem,aa,jk,reduceCtorEq,dz]
 by_cases c2:(20:Int)<t.ns.length
 ·have c2':¬t.ns.length≤20:=by omega
  simp only[go_sem,aa,jk,ae,reduceCtorEq,ag,c2,c2',dz]
 have c2':t.ns.length≤20:=by omega
 have no:∀i,i<t.ns.length→zw pr t i=false→((dn t.ns.length).all (zw pr t)&&((Hl t.ns).length:Int)==t.ns.length)=false:=fun i hi h=>by rw[all_false hi h,dz]
 simp only[go_sem,aa,jk,ae,reduceCtorEq,ag,c2,c2'];refine r9 (fun s'=>s'.base=0∧s'.tmp 1= .ic 1 (s'.av 1) 0∧s'.da 1=some (.loc [.d (.ft 2 (t.ps.map tx)),.d (.ft 5 (t.ns.map wz))])∧∀i',i'<t.ns.length→xf (t.ns.getD i' n0).n=true∧ui (t.ns.map Nd.n) i'=true) ?_ ?_
 ·refine fh t.ns.length (fun i s'=>s'.base=0∧s'.tmp 1= .ic 1 (s'.av 1) 0∧s'.da 1=some (.loc [.d (.ft 2 (t.ps.map tx)),.d (.ft 5 (t.ns.map wz))])∧s'.tmp 22= .d (.ft 5 (t.ns.map wz))∧s'.tmp 23= .d (.int ab t.ns.length)∧s'.tmp 24= .d (.int ab i)∧
   ∀i',i'<i→xf (t.ns.getD i' n0).n=true∧ui (t.ns.map Nd.n) i'=true) ?_ ?_
  ·simp only[go_sem,aa]
   try simp
  rintro i s' hi ⟨eb,f1,b1,f22,f23,f24,hI⟩;by_cases hlt:(i:Int)<t.ns.length
  ·have df:i<t.ns.length:=by omega
   have wi:=cu ((i:Int)+1) (by omega) (by omega);have hg:=Fe df
   have hgn:t.ns.getD i n0=t.ns[i]:=by simp[cd,df]
   have Bc:zw pr t i=(xf (t.ns.getD i n0).n&&(ui (t.ns.map Nd.n) i&&(tj pr (t.ns.getD i n0).f&&(((t.ns.getD i n0).ins.length:Int)==kIn (t.ns.getD i n0).f.k.toNat&&(((dn (t.ns.getD i n0).ins.length).all fun k=>St t.ns ((t.ns.getD i n0).ins.getD k ⟨#[]⟩))&&(p8 pr (t.ns.getD i n0).f t.ps).2==0))))):=rfl;have no:=no i df;have Tm:=Xo A.toPr (t.ns.getD i n0).n
   have ala:∀h:0<i,ui (t.ns.map Nd.n) i=strLt t.ns[i-1].n (t.ns.getD i n0).n:=fun h=>by
    unfold ui
    have:i-1<t.ns.length:=by omega
    have h0:i≠0:=by omega
    simp[h0,this,df]
   have hg':∀h:0<i,(t.ns.map wz)[i-1]? =some [.str t.ns[i-1].n,.int ab t.ns[i-1].f.k,x6 t.ns[i-1].f.vs,lj t.ns[i-1].f.ls,nr t.ns[i-1].ins]:=fun h=>by
    have:i-1<t.ns.length:=by omega
    simp[this,wz]
   generalize hnn:t.ns.getD i n0=n at*
   simp only[x6,lj,nr]at hg hg';simp only[go_sem,aa,ae,ah,reduceCtorEq,eb,f22,f23,f24,hlt,hg,bp,aq];refine ff Tm ?_;cases d1:xf n.n
   ·have:zw pr t i=false:=by rw[Bc,d1];rfl
    simp only[go_sem,aa,no this]
   by_cases d2:0<i
   ·have d2':(0:Int)<i:=by omega
    have w1:=cu ((i:Int)-1) (by omega) (by omega)
    have z:(0:Int)≤(i:Int)-1:=by omega
    cases d3:strLt t.ns[i-1].n n.n
    ·have d3':=d3;unfold strLt at d3'
     have:zw pr t i=false:=by rw[Bc,ala d2,d3,d1];rfl
     simp only[go_sem,aa,ae,ah,reduceCtorEq,f1,b1,d2',w1,Is d2',hg' d2,z,d3',no this]
    have d3':=d3;unfold strLt at d3';simp only[go_sem,aa,ae,ah,reduceCtorEq,f1,b1,f22,f23,f24,d2',w1,Is d2',hg' d2,z,d3',wi,df];exact⟨by simp,qf hI (by rw[hnn,ala d2];exact⟨d1,d3⟩)⟩
   have d2':¬(0:Int)<i:=by omega
   have hr0:ui (t.ns.map Nd.n) i=true:=by unfold ui;simp;omega
   simp only[go_sem,aa,reduceCtorEq,f1,b1,f22,f23,f24,d2',wi,df];exact⟨by simp,qf hI (by rw[hnn];exact⟨d1,hr0⟩)⟩
  have:i=t.ns.length:=by omega
  subst this;simp only[go_sem,aa,reduceCtorEq,eb,f1,b1,f23,f24,hlt];exact hI
 rintro s' ⟨eb,f1,b1,hnr⟩;simp only[go_sem,aa,ae,eb,f1,b1,ag];refine r9 (fun s'=>s'.base=0∧s'.tmp 1= .ic 1 (s'.av 1) 0∧s'.da 1=some (.loc [.d (.ft 2 (t.ps.map tx)),.d (.ft 5 (t.ns.map wz))])∧(dn t.ns.length).all (zw pr t)=true) ?_ ?_
 ·refine fh t.ns.length (fun i s'=>s'.base=0∧s'.tmp 1= .ic 1 (s'.av 1) 0∧s'.da 1=some (.loc [.d (.ft 2 (t.ps.map tx)),.d (.ft 5 (t.ns.map wz))])∧s'.tmp 51= .d (.ft 5 (t.ns.map wz))∧s'.tmp 52= .d (.int ab t.ns.length)∧s'.tmp 53= .d (.int ab i)∧∀i',i'<i→zw pr t i'=true) ?_ ?_
  ·simp only[go_sem,aa,f1,b1]
   try simp
  clear eb f1 b1;rintro i s' hi ⟨eb,f1,b1,f51,f52,f53,hI⟩;by_cases hlt:(i:Int)<t.ns.length
  ·have df:i<t.ns.length:=by omega
   have wi:=cu ((i:Int)+1) (by omega) (by omega);have hg:=Fe df
   have hgn:t.ns.getD i n0=t.ns[i]:=by simp[cd,df]
   obtain⟨q1,q2,q3,q4⟩:=hs2 _ (cy df);rw[←hgn]at q1 q2 q3 q4;have Bc:zw pr t i=(xf (t.ns.getD i n0).n&&(ui (t.ns.map Nd.n) i&&(tj pr (t.ns.getD i n0).f&&(((t.ns.getD i n0).ins.length:Int)==kIn (t.ns.getD i n0).f.k.toNat&&(((dn (t.ns.getD i n0).ins.length).all fun k=>St t.ns ((t.ns.getD i n0).ins.getD k ⟨#[]⟩))&&(p8 pr (t.ns.getD i n0).f t.ps).2==0))))):=rfl;have no:=no i df;rw[(hnr i df).1,(hnr i df).2,uh,uh]at Bc;have Tl:=a3y A.toPr hpr (t.ns.getD i n0).f t.ps q2 q3 q4;have hin:=an1 A.toPr (t.ns.getD i n0).f.k
   have aix:=a98 A.toPr (l:=(t.ns.getD i n0).ins) (g:=A.tp) (iy:=[.te (r8 t) 0]) (p:=fun k=> !(St t.ns ((t.ns.getD i n0).ins.getD k ⟨#[]⟩))) (fun k hk=>by
    have e:(t.ns.getD i n0).ins.getD k ⟨#[]⟩=(t.ns.getD i n0).ins[k]:=by rw[D2,ax hk];rfl
    rw[e];exact aqw A t _ (by omega)) (by omega)
   have a7r:((dn (t.ns.getD i n0).ins.length).any fun k=> !(St t.ns ((t.ns.getD i n0).ins.getD k ⟨#[]⟩)))= !((dn (t.ns.getD i n0).ins.length).all fun k=>St t.ns ((t.ns.getD i n0).ins.getD k ⟨#[]⟩)):=by
    rw[agw];simp
   rw[a7r]at aix
   generalize hnn:t.ns.getD i n0=n at*
   simp only[r8,jn,l7,nr]at aix;simp only[x6,lj,nr]at hg;simp only[cFt,x6,lj,jn,a6c]at Tl;simp only[go_sem,aa,ae,ah,reduceCtorEq,eb,f1,b1,f51,f52,f53,hlt,hg,bp,aq];refine il Tl ?_;cases c6:((p8 pr n.f t.ps).2==0)
   ·have c6':((p8 pr n.f t.ps).2 !=0)=true:=by unfold bne;rw[c6];rfl
    have:zw pr t i=false:=by rw[Bc,c6];simp
    simp only[go_sem,aa,reduceCtorEq,c6',no this]
   have c6':((p8 pr n.f t.ps).2 !=0)=false:=by unfold bne;rw[c6];rfl
   have hfe:tj pr n.f=true:=by
    cases h:tj pr n.f
    ·unfold p8 at c6;rw[bm h]at c6;cases c6
    rfl
   have hk:0≤n.f.k∧n.f.k<14:=by
    have:=hfe;unfold tj at this;simp only[cj,decide_eq_true_eq]at this;exact this.1
   rw[hfe,c6,uh,Gy]at Bc;rw[bm hk,bm hk]at hin;simp only[go_sem,aa,ae,ah,reduceCtorEq,c6'];refine ff hin ?_;cases c7:((n.ins.length:Int)==kIn n.f.k.toNat)
   ·have c7':(kIn n.f.k.toNat !=(n.ins.length:Int))=true:=by
     have:=beq_eq_false_iff_ne.1 c7;exact bne_iff_ne.2 fun h=>this h.symm
    have:zw pr t i=false:=by rw[Bc,c7];rfl
    simp only[go_sem,aa,ae,reduceCtorEq,ag,c7',no this]
   have c7':(kIn n.f.k.toNat !=(n.ins.length:Int))=false:=by
    have:=beq_iff_eq.1 c7;rw[this];simp
   rw[c7,uh]at Bc;simp only[go_sem,aa,ae,reduceCtorEq,f1,ag,c7'];refine ak0 (ds:=[.ft 1 (n.ins.map nh),.nu A.tp [.te [.ft 2 (t.ps.map tx),.ft 5 (t.ns.map wz)] 0]]) ?_ aix (.inl rfl) ?_
   ·simp only[go_sem,aa,b1,nj,rb]
   cases c8:(dn n.ins.length).all fun k=>St t.ns (n.ins.getD k ⟨#[]⟩)
   ·have:zw pr t i=false:=by rw[Bc,c8]
    simp only[go_sem,aa,no this]
   simp only[go_sem,aa,reduceCtorEq,f1,b1,f51,f52,f53,wi,df];exact⟨by simp,qf hI (by rw[Bc,c8])⟩
  have:i=t.ns.length:=by omega
  subst this;simp only[go_sem,aa,reduceCtorEq,eb,f1,b1,f52,f53,hlt];exact all_true hI
 clear eb f1 b1;rintro s' ⟨eb,f1,b1,hall⟩
 have ho:=adt A t (by omega) (fun n hn=>by have:=(hs2 n hn).1;omega)
 rw[←a4e (fun i hi=>(hnr i hi).1) (fun i hi=>(hnr i hi).2)]at ho;simp only[r8,jn,l7,nr]at ho;rw[hall,uh];simp only[go_sem,ae,eb,f1,b1];refine ff ho ?_;cases c9:(((Hl t.ns).length:Int)==t.ns.length)
 ·have c9':(((Hl t.ns).length:Int) !=t.ns.length)=true:=by unfold bne;rw[c9];rfl
  simp only[go_sem,aa,ae,reduceCtorEq,f1,b1,ag,c9']
 have c9':(((Hl t.ns).length:Int) !=t.ns.length)=false:=by unfold bne;rw[c9];rfl
 simp only[go_sem,aa,ae,reduceCtorEq,f1,b1,ag,c9']
end
def fb(u v:Sp):Int:=u.1*v.2-u.2*v.1
def afh(e:Ed)(p:Sp):Bool:=fb (kz e.1 p) (kz e.2 p)==0&&decide ((e.1.1-p.1)*(e.2.1-p.1)+(e.1.2-p.2)*(e.2.2-p.2)<0)
theorem aa7(n:Int):(if(if n<1 then n else 1)> -1 then(if n<1 then n else 1)else-1)=sgn n:=by
 unfold sgn;by_cases h1:n<1
 ·simp only[h1,dj];by_cases h2:n<0
  ·rw[al (by omega),bm h2]
  rw[bm (by omega),al h2,al (by omega)];omega
 simp only[h1,ee];rw[bm (by decide),al (by omega),bm (by omega)]
theorem ane(a:Sp):Fl a=(decide ((if a.2>a.1 then a.2 else a.1)≤500)&&decide ((if a.2<a.1 then a.2 else a.1)≥-500)):=by
 unfold Fl;rw[Sn];simp only[cj,decide_eq_true_eq];constructor
 ·rintro⟨h1,h2,h3,h4⟩;constructor<;>split<;>omega
 rintro⟨h1,h2⟩;split at h1<;>split at h2<;>omega
theorem ayg(a b p:Sp):fb (kz b a) (kz p a)=j2 a b p:=rfl
section
variable{P:Program}(A:Pr P)
theorem aq8(a:Sp):iq P A.vq [ya a] (.bool (Fl a)):=by
 refine du A.mo A.Tt (by simp) ?_;show ko P C6 (lg _ _) _;rw[ane];by_cases h:(if a.2>a.1 then a.2 else a.1)≤500
 ·have h':=h;simp only[gt_iff_lt]at h';simp only[C6,ya,go_sem,aa,dc,fp,de,dv,ey,ae,ah,reduceCtorEq,h']
 have h':=h;simp only[gt_iff_lt]at h';simp only[C6,ya,go_sem,aa,dc,fp,de,dv,ey,ae,ah,reduceCtorEq,h',dz]
theorem H6{a b:Sp}(ha:SmP a)(hb:SmP b):iq P A.fg [ya a,ya b] (ya (kz a b)):=by
 refine du A.mo A.Tu (by simp) ?_;show ko P Fs (lg _ _) _;obtain⟨⟨a1,a2⟩,a3,a4⟩:=ha;obtain⟨⟨b1,b2⟩,b3,b4⟩:=hb;have w1:=cu (a.1-b.1) (by omega) (by omega);have w2:=cu (a.2-b.2) (by omega) (by omega);simp only[Fs,ya,go_sem,aa,dc,fp,dv,ey,ae,ah,reduceCtorEq,w1,w2,kz]
theorem Qk{u v:Sp}(hu:SmP u)(hv:SmP v):iq P A.je [ya u,ya v] (.int ab (fb u v)):=by
 refine du A.mo A.a2d (by simp) ?_;show ko P Mh (lg _ _) _;obtain⟨w1,w2,w3,_⟩:=cr2 hu hv;simp only[Mh,ya,go_sem,aa,dc,fp,dv,ey,ae,ah,reduceCtorEq,w1,w2,w3,fb]
theorem aA4{a b c:Sp}(ha:SmL a)(hb:SmL b)(hc:SmL c):iq P A.Dp [ya a,ya b,ya c] (.int ab (sgn (fb (kz b a) (kz c b)))):=by
 refine du A.mo A.a5i (by simp) ?_;show ko P (Nv A.fg A.je) (lg _ _) _;have h1:=H6 A hb.p ha.p;have h2:=H6 A hc.p hb.p;have h3:=Qk A (hb.sub ha) (hc.sub hb);simp only[ya,kz]at h1 h2 h3;simp only[Nv,ya,go_sem,aa,de,ae];refine il h1 ?_;simp only[go_sem,aa,de,ae];refine il h2 ?_;simp only[go_sem,aa,de];refine il h3 ?_;simp only[go_sem,aa,de,kz];rw[←aa7]
theorem aA6{e:Ed}{p:Sp}(h1:SmL e.1)(h2:SmL e.2)(hp:SmL p):iq P A.ub [dEd e,ya p] (.bool (afh e p)):=by
 refine du A.mo A.Sx (by simp) ?_;show ko P (F6 A.fg A.je) (lg _ _) _;have k1:=H6 A h1.p hp.p;have k2:=H6 A h2.p hp.p;have k3:=Qk A (h1.sub hp) (h2.sub hp);have hs1:=h1.sub hp;have hs2:=h2.sub hp;simp only[ya,kz]at k1 k2 k3;simp only[F6,dEd,ya,go_sem,aa,dc,ae,ah];refine il k1 ?_;simp only[go_sem,aa,dc,fp,dv,ey,ae];refine il k2 ?_;simp only[go_sem,aa,ae];refine il k3 ?_;unfold afh;simp only[kz];simp only[kz]at hs1 hs2;obtain⟨⟨a1,a2⟩,a3,a4⟩:=hs1;obtain⟨⟨b1,b2⟩,b3,b4⟩:=hs2;have m1:=a7o (x:=e.1.1-p.1) (y:=e.2.1-p.1) (by simp only at*;omega) (by simp only at*;omega);have m2:=a7o (x:=e.1.2-p.2) (y:=e.2.2-p.2) (by simp only at*;omega) (by simp only at*;omega);have w1:=cu ((e.1.1-p.1)*(e.2.1-p.1)) (by omega) (by omega);have w2:=cu ((e.1.2-p.2)*(e.2.2-p.2)) (by omega) (by omega);have w3:=cu ((e.1.1-p.1)*(e.2.1-p.1)+(e.1.2-p.2)*(e.2.2-p.2)) (by omega) (by omega);cases c:(fb (e.1.1-p.1,e.1.2-p.2) (e.2.1-p.1,e.2.2-p.2)==0)
 ·simp only[go_sem,aa,reduceCtorEq,c,dz]
 simp only[go_sem,aa,dc,fp,dv,ey,ae,ah,reduceCtorEq,c,w1,w2,w3]
theorem aay{e:Ed}{p:Sp}(h1:SmL e.1)(h2:SmL e.2)(hp:SmL p):iq P A.pv [dEd e,ya p] (.int ab (sgn (j2 e.1 e.2 p))):=by
 refine du A.mo A.Nf (by simp) ?_;show ko P (Ak A.fg A.je) (lg _ _) _;have k1:=H6 A h2.p h1.p;have k2:=H6 A hp.p h1.p;have k3:=Qk A (h2.sub h1) (hp.sub h1);rw[ayg]at k3;simp only[ya,kz]at k1 k2 k3;simp only[Ak,dEd,ya,go_sem,aa,dc,fp,de,dv,ey,ae,ah];refine il k1 ?_;simp only[go_sem,aa,dc,de,ae,ah];refine il k2 ?_;simp only[go_sem,aa,de];refine il k3 ?_;simp only[go_sem,aa,de];rw[←aa7]
theorem ams{e f:Ed}(h1:SmL e.1)(h2:SmL e.2)(h3:SmL f.1)(h4:SmL f.2):iq P A.qu [dEd e,dEd f] (.bool (Mz e f)):=by
 refine du A.mo A.Ol (by simp) ?_;show ko P (Bx A.pv) (lg _ _) _;have k1:=aay A h1 h2 h3;have k2:=aay A h1 h2 h4;have k3:=aay A h3 h4 h1;have k4:=aay A h3 h4 h2;have b1:=aat (j2 e.1 e.2 f.1) (j2 e.1 e.2 f.2);have b2:=aat (j2 f.1 f.2 e.1) (j2 f.1 f.2 e.2);have w1:=cu _ (by omega) (by omega:sgn (j2 e.1 e.2 f.1)*sgn (j2 e.1 e.2 f.2)≤9223372036854775807);have w2:=cu _ (by omega) (by omega:sgn (j2 f.1 f.2 e.1)*sgn (j2 f.1 f.2 e.2)≤9223372036854775807);simp only[dEd,ya]at k1 k2 k3 k4;unfold Mz;simp only[Bx,dEd,go_sem,aa,dc,ae,ah];refine O8 k1 ?_;simp only[go_sem,aa,dc,fp,dv,ey,ae];refine O8 k2 ?_;by_cases c:sgn (j2 e.1 e.2 f.1)*sgn (j2 e.1 e.2 f.2)<0
 ·simp only[go_sem,aa,dc,ae,ah,reduceCtorEq,w1,c];refine O8 k3 ?_;simp only[go_sem,aa,dc,fp,dv,ey,ae];refine O8 k4 ?_;simp only[go_sem,aa,reduceCtorEq,w2]
 simp only[go_sem,aa,reduceCtorEq,w1,c,dz]
theorem avt(a:Sp):iq P A.yo [ya a] (.bool !(Fl a)):=by
 refine du A.mo A.Zx (by simp) ?_;show ko P (Kp A.vq) (lg _ _) _;have h:=aq8 A a;simp only[ya]at h;simp only[Kp,ya,go_sem,aa,ae];refine ff h ?_;simp only[go_sem,aa]
theorem amd{ls:List (List Sp)}(h2:∀l∈ls,l.length≤2^30):uz ls≤ls.length*2^30:=by
 unfold uz
 induction ls with
 |nil=>simp
 |cons l r ih=>
  have:=ih fun m hm=>h2 m (by simp[hm]);have:=h2 l (by simp);simp only[gf,aK6,ca];omega
theorem avq(ls:List (List Sp))(h1:ls.length≤2^30)(h2:∀l∈ls,l.length≤2^30):iq P A.s6 [.agg [lj ls]] (.int ab (uz ls)):=by
 refine du A.mo A.Qw (by simp) ?_;show ko P De (lg _ _) _;simp only[De,lj,go_sem,aa,ag];refine fh ls.length (fun i s'=>s'.tmp 7= .d (.ft 1 (ls.map fun l=>[vz l]))∧s'.tmp 8= .d (.int ab ls.length)∧s'.tmp 9= .d (.int ab i)∧s'.tmp 3= .d (.int ab (uz (ls.take i)))) ?_ ?_
 ·simp only[go_sem,aa];simp[uz]
 rintro i s' hi ⟨f7,f8,f9,f3⟩;by_cases hlt:(i:Int)<ls.length
 ·have df:i<ls.length:=by omega
  have wi:=cu ((i:Int)+1) (by omega) (by omega);have ht:=Oo df
  have hgi:ls.getD i []=ls[i]:=by simp[cd,df]
  rw[hgi]at ht;have hle:=amd (ls:=ls.take i) fun l hl=>h2 l (Ix hl);have hl:=h2 _ (cy df)
  have hti:(ls.take i).length≤2^30:=by simp;omega
  have hb:uz (ls.take i)≤2^60:=ie hle (by have:=aJj hti (ay (2^30));omega);have w:=cu ((uz (ls.take i):Int)+ls[i].length) (by omega) (by omega)
  have e:((uz (ls.take (i+1)):Nat):Int)=(uz (ls.take i):Int)+ls[i].length:=by rw[ht];omega
  simp only[go_sem,aa,reduceCtorEq,f7,f8,f9,f3,hlt,Fc df,bp,aq,ag,w,wi,df,e]
  try simp
 have:i=ls.length:=by omega
 subst this;rw[dt]at f3;simp only[go_sem,aa,reduceCtorEq,f8,f9,f3,hlt]
theorem ahf(ls:List (List Sp))(h1:ls.length≤2^30)(h2:(gr ls).length≤2^30):iq P A.oh [.agg [lj ls]] (R4 (gr ls)):=by
 have main:iq P A.oh [.agg [lj ls]] (yc 4 ((gr ls).map D5)):=by
  refine du A.mo A.O5 (by simp) ?_;show ko P Bg (lg _ _) _;simp only[Bg,lj,go_sem,aa,ag];refine fh ls.length (fun i s'=>s'.base=0∧s'.tmp 9= .d (.ft 1 (ls.map fun l=>[vz l]))∧s'.tmp 10= .d (.int ab ls.length)∧s'.tmp 11= .d (.int ab i)∧se s' 34 4 ((gr (ls.take i)).map D5) (s'.tmp 3)) ?_ ?_
  ·simp only[go_sem,aa];exact se.nil
  rintro i s' hi ⟨eb,f9,f10,f11,acc⟩;by_cases hlt:(i:Int)<ls.length
  ·have df:i<ls.length:=by omega
   have wi:=cu ((i:Int)+1) (by omega) (by omega);have hgi:=Fc df;simp only[go_sem,aa,reduceCtorEq,eb,f9,f10,f11,hlt,hgi,bp,aq,ag]
   refine fh ls[i].length (fun k s'=>s'.base=0∧s'.tmp 9= .d (.ft 1 (ls.map fun l=>[vz l]))∧s'.tmp 10= .d (.int ab ls.length)∧s'.tmp 11= .d (.int ab i)∧s'.tmp 5= .d (.ft 2 (ls[i].map Bs))∧s'.tmp 15= .d (.ft 2 (ls[i].map Bs))∧s'.tmp 16= .d (.int ab ls[i].length)∧s'.tmp 17= .d (.int ab k)∧
    se s' 34 4 ((gr (ls.take i)++(ja ls[i]).take k).map D5) (s'.tmp 3)) ?_ ?_
   ·simp only[go_sem,aa,f9,f10,f11,y0];exact acc.mono rfl rfl
   clear eb f9 f10 f11 acc;rintro k s' hk ⟨eb,f9,f10,f11,f5,f15,f16,f17,acc⟩;by_cases Gt:(k:Int)<ls[i].length
   ·have qg:k<ls[i].length:=by omega
    have hle:=Lf df (aKi qg)
    have hl1:ls[i].length≤2^30:=by
     have:=Lf df (ay ls[i].length);simp only[db,dw,vn]at this;omega
    have wk:=cu ((k:Int)+1) (by omega) (by omega);have hm:(k+1)%ls[i].length<ls[i].length:=a73 _ (by omega)
    have hm':(((k+1)%ls[i].length:Nat):Int)<ls[i].length:=by omega
    have hne:¬((ls[i].length:Nat):Int)=0:=by omega
    simp only[go_sem,aa,ae,ah,reduceCtorEq,dh,eb,f5,f15,f16,f17,ag,Gt,bp,aq,D8 qg,D8 hm,wk,Z8,hne];refine s5 (dd:=(gr (ls.take i)++(ja ls[i]).take k).map D5) (ys:=[D5 (An ls[i] k)]) (osz:=some 4) ?_ ?_ rfl (by simp[D5,D.one]) ?_ (by simp) ?_
    ·simp only[go_sem,aa];exact acc.mono (by simp[ak]) (by simp[ak])
    ·simp only[go_sem,aa,qm];rfl
    ·simp only[ag,ca,ed];omega
    intro s2 g;simp only[go_sem,aa,reduceCtorEq,g.tmp,g.base,f9,f10,f11,f5,f15,f16,f17,wk,qg];refine⟨by simp,?_⟩;have ha:=g.acc (by simp);rw[g.tmp,ck]at ha;rw[O1 qg,←oq];simp only[fj,fu,gf,ni]at ha⊢;exact ha.mono rfl rfl
   have hke:k=ls[i].length:=by omega
   simp only[go_sem,aa,reduceCtorEq,eb,f9,f10,f11,f16,f17,Gt,wi,df];refine⟨by simp,?_⟩;rw[Wy df];rw[hke,tz (l:=ja ls[i]) (by rw[vn];exact ay _)]at acc;exact acc.mono rfl rfl
  have:i=ls.length:=by omega
  subst this;rw[dt]at acc;simp only[go_sem,aa,reduceCtorEq,eb,f10,f11,hlt];rcases acc with ⟨a1,a2⟩|⟨a1,a2,a3⟩
  ·simp only[go_sem,a1,a2,yc]
  have he:PS.dd s' 34 (s'.av 34)=some (4,(gr ls).map D5):=by unfold PS.dd;rw[bm rfl,a3]
  rw[yc,al a1,a2];simp only[go_sem,a3,ag]
 exact main.M7 Jz
end
def Mv(met:List Ed)(e:Ed):Bool:=met.any fun f=>a2r e f
def cM(e:Ed):D×C:=(.agg (D5 e),.d (.bool true))
theorem atk(e f:Ed):Ep (.row [.int,.int,.int,.int]) (.agg (D5 e)) (.agg (D5 f))=some (a2r e f):=by
 simp[Ep,D5,As,O2,a2r]
theorem a38(e:Ed)(met:List Ed):Hc (.row [.int,.int,.int,.int]) (.agg (D5 e)) (met.map cM)=some (if Mv met e then some (C.d (.bool true))else none):=by
 induction met with
 |nil=>rfl
 |cons f r ih=>
  simp only[gf]
  show(match Ep (.row [.int,.int,.int,.int]) (.agg (D5 e)) (.agg (D5 f))with|some true=>_|some false=>_|none=>_)=_
  rw[atk];unfold Mv at ih⊢;rw[aK7];cases a2r e f
  ·simp only[ih,L8]
  simp
theorem arc(e:Ed)(met:List Ed)(h:Mv met e=false):Mt (.row [.int,.int,.int,.int]) (.agg (D5 e)) (C.d (.bool true)) (met.map cM)=some ((met++[e]).map cM):=by
 induction met with
 |nil=>rfl
 |cons f r ih=>
  simp only[gf,xz]
  show(match Ep (.row [.int,.int,.int,.int]) (.agg (D5 e)) (.agg (D5 f))with|some true=>_|some false=>_|none=>_)=_
  rw[atk];unfold Mv at h ih;rw[aK7,Rc]at h;rw[h.1];simp only[ih h.2,ir];rfl
def ab5(e:Ed):Ed:=(e.2,e.1)
def a3t(es:List Ed)(i:Nat):Bool:= !tf (es.getD i e0).1 (es.getD i e0).2&&(!Mv (es.take i) (es.getD i e0)&& !Mv (es.take i) (ab5 (es.getD i e0)))
def a0m(es:List Ed)(i k:Nat):Bool:= !afh (es.getD i e0) (es.getD k e0).1&& !(decide (k<i)&&Mz (es.getD i e0) (es.getD k e0))
def Re(es:List Ed):Bool:=(dn es.length).all (a3t es)&&(dn es.length).all fun i=>(dn es.length).all (a0m es i)
section
variable{P:Program}(A:Pr P)
theorem aq7(es:List Ed)(h1:es.length≤1000)(h2:∀e∈es,SmL e.1∧SmL e.2):iq P A.B9 [R4 es] (.bool (Re es)):=by
 refine du A.mo A.Zw (by simp) ?_;show ko P (Ko A.ub A.qu) (lg _ _) _;unfold Re;simp only[Ko,R4,go_sem,aa,reduceCtorEq,ag];refine r9 (fun s'=>s'.base=0∧s'.tmp 0= .d (.ft 4 (es.map D5))∧(dn es.length).all (a3t es)=true) ?_ ?_
 ·refine fh es.length (fun i s'=>s'.base=0∧s'.tmp 0= .d (.ft 4 (es.map D5))∧s'.tmp 3= .kj 10 (s'.av 10)∧s'.mp 10=some ((es.take i).map cM)∧s'.tmp 11= .d (.ft 4 (es.map D5))∧s'.tmp 12= .d (.int ab es.length)∧s'.tmp 13= .d (.int ab i)∧∀i',i'<i→a3t es i'=true) ?_ ?_
  ·simp only[go_sem,aa,reduceCtorEq];intro i' Ds;omega
  rintro i s' hi ⟨eb,f0,f3,m3,f11,f12,f13,hI⟩;by_cases hlt:(i:Int)<es.length
  ·have df:i<es.length:=by omega
   have wi:=cu ((i:Int)+1) (by omega) (by omega);have hg:=D9 df
   have hge:es.getD i e0=es[i]:=by simp[cd,df]
   have htk:es.take (i+1)=es.take i++[es.getD i e0]:=by rw[fm,hge];simp[df]
   have Bc:a3t es i=(!tf (es.getD i e0).1 (es.getD i e0).2&&(!Mv (es.take i) (es.getD i e0)&& !Mv (es.take i) (ab5 (es.getD i e0)))):=rfl
   have no:a3t es i=false→((dn es.length).all (a3t es)&&(dn es.length).all fun i=>(dn es.length).all (a0m es i))=false:=fun h=>by rw[all_false df h,dz]
   generalize es.getD i e0=e at*
   have l1:=a38 e (es.take i);have l2:=a38 (ab5 e) (es.take i);simp only[D5,ab5]at l1 l2;simp only[go_sem,aa,dc,fp,dv,ey,ae,ah,reduceCtorEq,eb,f11,f12,f13,hlt,hg,bp,aq,Gy];cases c1:tf e.1 e.2
   ·have c1':=c1;unfold tf at c1';cases c2:Mv (es.take i) e
    ·cases c3:Mv (es.take i) (ab5 e)
     ·have c3':=c3;simp only[ab5]at c3';have pd:=arc e (es.take i) c2;simp only[D5]at pd;simp only[go_sem,aa,dc,fp,dv,ey,ae,ah,reduceCtorEq,f0,f3,m3,f11,f12,f13,c1',c2,c3',Cj,PS.ents,l1,l2,pd,wi,df,htk];exact⟨by simp,qf hI (by rw[Bc,c1,c2,c3];rfl)⟩
     have c3':=c3;simp only[ab5]at c3';simp only[go_sem,aa,dc,fp,dv,ey,ae,ah,f3,m3,c1',c2,c3',Cj,PS.ents,l1,l2];rw[no (by rw[Bc,c3];simp)]
    simp only[go_sem,aa,ae,f3,m3,c1',c2,Cj,PS.ents,l1];rw[no (by rw[Bc,c2];simp)]
   have c1':=c1;unfold tf at c1';simp only[go_sem,aa,c1'];rw[no (by rw[Bc,c1];simp)]
  have:i=es.length:=by omega
  subst this;simp only[go_sem,reduceCtorEq,eb,f0,f12,f13,hlt];exact all_true hI
 rintro s' ⟨eb,f0,ha⟩;rw[ha,uh];simp only[go_sem,f0,ag];refine fh es.length (fun i s'=>s'.base=0∧s'.tmp 0= .d (.ft 4 (es.map D5))∧s'.tmp 39= .d (.ft 4 (es.map D5))∧s'.tmp 40= .d (.int ab es.length)∧s'.tmp 41= .d (.int ab i)∧∀i',i'<i→(dn es.length).all (a0m es i')=true) ?_ ?_
 ·simp only[go_sem,aa,reduceCtorEq,eb,f0]
  try simp
 clear eb f0;rintro i s' hi ⟨eb,f0,f39,f40,f41,hI⟩;by_cases hlt:(i:Int)<es.length
 ·have df:i<es.length:=by omega
  have wi:=cu ((i:Int)+1) (by omega) (by omega);have hg:=D9 df
  have hge:es.getD i e0=es[i]:=by simp[cd,df]
  obtain⟨q1,q2⟩:=h2 _ (cy df);rw[←hge]at q1 q2;have no:∀k,k<es.length→a0m es i k=false→((dn es.length).all fun i=>(dn es.length).all (a0m es i))=false:=fun k hk h=>all_false df (all_false hk h);have Bc:∀k,a0m es i k=(!afh (es.getD i e0) (es.getD k e0).1&& !(decide (k<i)&&Mz (es.getD i e0) (es.getD k e0))):=fun _=>rfl
  generalize es.getD i e0=e at*
  simp only[go_sem,aa,ae,reduceCtorEq,eb,f0,f39,f40,f41,hlt,hg,bp,aq,ag]
  refine fh es.length (fun k s'=>s'.base=0∧s'.tmp 0= .d (.ft 4 (es.map D5))∧s'.tmp 39= .d (.ft 4 (es.map D5))∧s'.tmp 40= .d (.int ab es.length)∧s'.tmp 41= .d (.int ab i)∧s'.tmp 6= .d (.int ab i)∧s'.tmp 7= .ic 7 (s'.av 7) 0∧s'.da 7=some (.loc [.d (.int ab e.1.1),.d (.int ab e.1.2),.d (.int ab e.2.1),.d (.int ab e.2.2)])∧
   s'.tmp 46= .d (.ft 4 (es.map D5))∧s'.tmp 47= .d (.int ab es.length)∧s'.tmp 48= .d (.int ab k)∧∀k',k'<k→a0m es i k'=true) ?_ ?_
  ·simp only[go_sem,aa,reduceCtorEq,f0,f39,f40,f41]
   try simp
  clear eb f0 f39 f40 f41;rintro k s' hk ⟨eb,f0,f39,f40,f41,f6,f7,b7,f46,f47,f48,hK⟩;by_cases Gt:(k:Int)<es.length
  ·have qg:k<es.length:=by omega
   have wk:=cu ((k:Int)+1) (by omega) (by omega);have hgk:=D9 qg
   have aGn:es.getD k e0=es[k]:=by simp[cd,qg]
   obtain⟨p1,p2⟩:=h2 _ (cy qg);rw[←aGn]at p1 p2;have nok:=no k qg;have axm:=Bc k
   generalize es.getD k e0=f at*
   have ch:=aA6 A q1 q2 p1;have cc:=ams A q1 q2 p1 p2;simp only[dEd,ya]at ch cc;simp only[go_sem,aa,dc,ae,ah,reduceCtorEq,eb,f7,b7,f46,f47,f48,Gt,hgk,bp,aq];refine il ch ?_;cases c1:afh e f.1
   ·by_cases c2:(k:Int)<i
    ·have c2':k<i:=by omega
     simp only[go_sem,aa,ae,reduceCtorEq,f6,f7,b7,c2];refine il cc ?_;cases c3:Mz e f
     ·simp only[go_sem,aa,reduceCtorEq,f0,f39,f40,f41,f6,f7,b7,f46,f47,f48,wk,qg];exact⟨by simp,qf hK (by rw[axm,c1,c3];simp)⟩
     simp only[go_sem,aa];rw[nok (by rw[axm,c3,decide_eq_true c2'];simp)]
    have c2':¬k<i:=by omega
    simp only[go_sem,aa,reduceCtorEq,f0,f39,f40,f41,f6,f7,b7,f46,f47,f48,c2,wk,qg];exact⟨by simp,qf hK (by rw[axm,c1,decide_eq_false c2'];simp)⟩
   simp only[go_sem,aa];rw[nok (by rw[axm,c1];simp)]
  have:k=es.length:=by omega
  subst this;simp only[go_sem,aa,reduceCtorEq,eb,f0,f39,f40,f41,f47,f48,Gt,wi,df];exact⟨by simp,qf hI (all_true hK)⟩
 have:i=es.length:=by omega
 subst this;simp only[go_sem,aa,reduceCtorEq,eb,f40,f41,hlt];rw[all_true hI]
end
def vw(sw:Bool)(p:Sp):Sp:=if sw then(p.2,p.1)else p
def seen(sw:Bool)(m p:Sp):Sp:=(2*(vw sw p).1-(vw sw m).1,2*(vw sw p).2-(vw sw m).2)
def a1q(sw:Bool)(m:Sp)(f:Ed):Int:=
 if decide (0<(seen sw m f.1).2)==decide (0<(seen sw m f.2).2)then 0
 else if decide (0<fb (seen sw m f.1) (seen sw m f.2))==decide ((seen sw m f.1).2<(seen sw m f.2).2)then(if(seen sw m f.1).2<(seen sw m f.2).2 then 1 else-1)else 0
def swE(e:Ed):Bool:=e.1.2==e.2.2
def wAt(es:List Ed)(i k:Nat):Int:=if k=i then 0 else a1q (swE (es.getD i e0)) (sn (es.getD i e0)) (es.getD k e0)
def Y9(es:List Ed)(i:Nat):Int:=
 (if swE (es.getD i e0)then-(ot (wAt es i) es.length)else ot (wAt es i) es.length)+
  (if decide ((vw (swE (es.getD i e0)) (es.getD i e0).1).2<(vw (swE (es.getD i e0)) (es.getD i e0).2).2)== !swE (es.getD i e0)then 1 else 0)
def S8(es:List Ed):Bool:=(dn es.length).all fun i=>Y9 es i==1
theorem azy(sw:Bool)(m:Sp)(f:Ed): -1≤a1q sw m f∧a1q sw m f≤1:=by unfold a1q;split<;>(try split)<;>(try split)<;>omega
theorem aCh(es:List Ed)(i k:Nat): -1≤wAt es i k∧wAt es i k≤1:=by
 unfold wAt;split
 ·omega
 exact azy _ _ _
def Qu(v:Sp):Int:=if decide (0<v.2)||(v.2==0&&decide (0<v.1))then 0 else 1
def yb(u v:Sp):Int:=if Qu u=Qu v then-(fb u v)else Qu u-Qu v
theorem ald(v:Sp):Qu v=0∨Qu v=1:=by unfold Qu;split<;>simp
theorem att{u v:Sp}(hu:SmP u)(hv:SmP v): -800000000≤fb u v∧fb u v≤800000000:=by
 obtain⟨⟨a1,a2⟩,a3,a4⟩:=hu;obtain⟨⟨b1,b2⟩,b3,b4⟩:=hv;have m1:=a7o (x:=u.1) (y:=v.2) (by omega) (by omega);have m2:=a7o (x:=u.2) (y:=v.1) (by omega) (by omega);unfold fb;omega
section
variable{P:Program}(A:Pr P)
theorem aqf(v:Sp):iq P A.Bl [ya v] (.int ab (Qu v)):=by
 refine du A.mo A.a5k (by simp) ?_;show ko P Dd (lg _ _) _;unfold Qu;by_cases h1:0<v.2
 ·simp only[Dd,ya,go_sem,aa,dc,fp,dv,ey,ae,reduceCtorEq,h1,Ho]
 cases h2:v.2==0
 ·simp only[Dd,ya,go_sem,aa,dc,fp,dv,ey,ae,reduceCtorEq,h1,h2,dz,Vj]
 by_cases h3:0<v.1
 ·simp only[Dd,ya,go_sem,aa,dc,fp,dv,ey,ae,ah,reduceCtorEq,h1,h2,h3,aJ8]
 simp only[Dd,ya,go_sem,aa,dc,fp,dv,ey,ae,ah,reduceCtorEq,h1,h2,h3,Vj]
theorem akw{u v:Sp}(hu:SmP u)(hv:SmP v):iq P A.sj [ya u,ya v] (.int ab (yb u v)):=by
 refine du A.mo A.a2e (by simp) ?_;show ko P (Mi A.Bl A.je) (lg _ _) _;have h1:=aqf A u;have h2:=aqf A v;have h3:=Qk A hu hv;have hb:=att hu hv;have w1:=cu (0-fb u v) (by omega) (by omega)
 have e1:(0:Int)-fb u v= -(fb u v):=by omega
 rw[e1]at w1;simp only[ya]at h1 h2 h3;unfold yb;simp only[Mi,ya,go_sem,aa,ae];refine ff h1 ?_;simp only[go_sem,aa,ae];refine ff h2 ?_;rcases ald u with a|a<;>rcases ald v with b|b
 ·simp only[go_sem,aa,aJg,ae,reduceCtorEq,a,b,bne_self_eq_false];refine il h3 ?_;simp only[go_sem,aa,w1,e1]
 ·have:((0:Int) !=1)=true:=rfl;have w:=cu ((0:Int)-1) (by omega) (by omega);simp only[go_sem,aa,aJg,Int.reduceEq,de,reduceCtorEq,a,b,this]
  try rfl
 ·have:((1:Int) !=0)=true:=rfl;simp only[go_sem,aa,aJg,Int.reduceEq,reduceCtorEq,a,b,this]
  try rfl
 simp only[go_sem,aa,aJg,ae,reduceCtorEq,a,b,bne_self_eq_false];refine il h3 ?_;simp only[go_sem,aa,w1,e1]
def Q7(es:List Ed)(i:Nat)(e:Ed)(sw:Bool)(s':PS):Prop:=
 s'.base=0∧s'.tmp 0= .d (.ft 4 (es.map D5))∧s'.tmp 3= .d (.int ab i)∧s'.tmp 4= .ic 4 (s'.av 4) 0∧s'.da 4=some (.loc [.d (.int ab e.1.1),.d (.int ab e.1.2),.d (.int ab e.2.1),.d (.int ab e.2.2)])∧
 s'.tmp 5= .ic 5 (s'.av 5) 0∧s'.da 5=some (.loc [.d (.int ab (e.1.1+e.2.1)),.d (.int ab (e.1.2+e.2.2))])∧s'.tmp 6= .d (.int ab (if sw then 1 else 0))∧s'.tmp 7= .d (.int ab (if sw then 0 else 1))∧
 s'.tmp 16= .d (.ft 4 (es.map D5))∧s'.tmp 17= .d (.int ab es.length)∧s'.tmp 18= .d (.int ab i)
def ak5(f:Nat):di:=
 (.seq (
           (.block 3 (
            (.seq (
            .region [⟨some 49,.j7 (.t 47),none,[]⟩,
             ⟨some 50,.sq 4 (.t 45) (.t 47),none,[]⟩,
             ⟨some 51,.load 4 true (.t 50),none,[]⟩,
             ⟨some 10,.alloc [(.int ab 0),(.int ab 0),(.int ab 0),(.int ab 0)],none,[]⟩,
             ⟨some 9,.j7 (.t 49),none,[]⟩,
             ⟨none,.store 4 (.t 10) (.t 51),none,[]⟩] false []) (
            (.seq (
             .region [⟨some 52,.j7 (.t 6),none,[]⟩,
              ⟨some 53,.ux 2 2 (.t 10) (.c (.int ab 0)),none,[]⟩,
              ⟨some 54,.ux 2 1 (.t 53) (.t 52),none,[]⟩,
              ⟨some 55,.load 1 false (.t 54),none,[]⟩,
              ⟨some 56,.bin .mul (.c (.int ab 2)) (.t 55),none,[]⟩,
              ⟨some 57,.j7 (.t 6),none,[]⟩,
              ⟨some 58,.ux 2 1 (.t 5) (.t 57),none,[]⟩,
              ⟨some 59,.load 1 false (.t 58),none,[]⟩,
              ⟨some 60,.bin .sub (.t 56) (.t 59),none,[]⟩,
              ⟨some 61,.j7 (.t 7),none,[]⟩,
              ⟨some 62,.ux 2 2 (.t 10) (.c (.int ab 0)),none,[]⟩,
              ⟨some 63,.ux 2 1 (.t 62) (.t 61),none,[]⟩,
              ⟨some 64,.load 1 false (.t 63),none,[]⟩,
              ⟨some 65,.bin .mul (.c (.int ab 2)) (.t 64),none,[]⟩,
              ⟨some 66,.j7 (.t 7),none,[]⟩,
              ⟨some 67,.ux 2 1 (.t 5) (.t 66),none,[]⟩,
              ⟨some 68,.load 1 false (.t 67),none,[]⟩,
              ⟨some 69,.bin .sub (.t 65) (.t 68),none,[]⟩,
              ⟨some 70,.build [(.int ab 0),(.int ab 0)] [(0,1,(.t 60)),(1,1,(.t 69))],none,[]⟩,
              ⟨some 71,.j7 (.t 6),none,[]⟩,
              ⟨some 72,.ux 2 2 (.t 10) (.c (.int ab 1)),none,[]⟩,
              ⟨some 73,.ux 2 1 (.t 72) (.t 71),none,[]⟩,
              ⟨some 74,.load 1 false (.t 73),none,[]⟩,
              ⟨some 75,.bin .mul (.c (.int ab 2)) (.t 74),none,[]⟩,
              ⟨some 76,.j7 (.t 6),none,[]⟩,
              ⟨some 77,.ux 2 1 (.t 5) (.t 76),none,[]⟩,
              ⟨some 78,.load 1 false (.t 77),none,[]⟩,
              ⟨some 79,.bin .sub (.t 75) (.t 78),none,[]⟩,
              ⟨some 80,.j7 (.t 7),none,[]⟩,
              ⟨some 81,.ux 2 2 (.t 10) (.c (.int ab 1)),none,[]⟩,
              ⟨some 82,.ux 2 1 (.t 81) (.t 80),none,[]⟩,
              ⟨some 83,.load 1 false (.t 82),none,[]⟩,
              ⟨some 84,.bin .mul (.c (.int ab 2)) (.t 83),none,[]⟩,
              ⟨some 85,.j7 (.t 7),none,[]⟩,
              ⟨some 86,.ux 2 1 (.t 5) (.t 85),none,[]⟩,
              ⟨some 87,.load 1 false (.t 86),none,[]⟩,
              ⟨some 88,.bin .sub (.t 84) (.t 87),none,[]⟩,
              ⟨some 89,.build [(.int ab 0),(.int ab 0)] [(0,1,(.t 79)),(1,1,(.t 88))],none,[]⟩,
              ⟨some 11,.ze 2,none,[]⟩,
              ⟨some 12,.ze 2,none,[]⟩,
              ⟨none,.init 11 2 (.t 70),none,[]⟩,
              ⟨none,.init 12 2 (.t 89),none,[]⟩] true []) (
             (.seq (
             (.seq (
              .region [⟨some 90,.j7 (.t 9),none,[]⟩,
               ⟨some 91,.j7 (.t 3),none,[]⟩,
               ⟨some 92,.bin .eql (.t 90) (.t 91),none,[]⟩,
               ⟨some 93,.j7 (.t 92),none,[]⟩,
               ⟨some 94,.ux 2 1 (.t 11) (.c (.int ab 1)),some (93,false),[]⟩,
               ⟨some 95,.load 1 false (.t 94),some (93,false),[]⟩,
               ⟨some 96,.bin .gtr (.t 95) (.c (.int ab 0)),some (93,false),[]⟩,
               ⟨some 97,.ux 2 1 (.t 12) (.c (.int ab 1)),some (93,false),[]⟩,
               ⟨some 98,.load 1 false (.t 97),some (93,false),[]⟩,
               ⟨some 99,.bin .gtr (.t 98) (.c (.int ab 0)),some (93,false),[]⟩,
               ⟨some 100,.beq false (.t 96) (.t 99),some (93,false),[]⟩,
               ⟨some 101,.pick (.t 93) (.c (.bool true)) (.t 100),none,[]⟩] false []) (
              (.cond (.t 101) (
              .exit 3) (
              .skip))))) (
             (.seq (
              .region [⟨some 102,.ux 2 1 (.t 12) (.c (.int ab 1)),none,[]⟩,
               ⟨some 103,.load 1 false (.t 102),none,[]⟩,
               ⟨some 104,.ux 2 1 (.t 11) (.c (.int ab 1)),none,[]⟩,
               ⟨some 105,.load 1 false (.t 104),none,[]⟩,
               ⟨some 106,.bin .gtr (.t 103) (.t 105),none,[]⟩,
               ⟨some 13,.j7 (.t 106),none,[]⟩] false []) (
              (.seq (
              .region [⟨some 107,.load 2 true (.t 11),none,[]⟩,
               ⟨some 108,.load 2 true (.t 12),none,[]⟩,
               ⟨some 109,.call f [(.t 107),(.t 108)],none,[]⟩,
               ⟨some 110,.bin .gtr (.t 109) (.c (.int ab 0)),none,[]⟩,
               ⟨some 111,.j7 (.t 13),none,[]⟩,
               ⟨some 112,.beq false (.t 110) (.t 111),none,[]⟩] false []) (
              (.cond (.t 112) (
               (.seq (
               .region [⟨some 113,.j7 (.t 13),none,[]⟩] false []) (
               (.cond (.t 113) (
                .region [⟨some 114,.j7 (.t 8),none,[]⟩,
                 ⟨some 115,.bin .add (.t 114) (.c (.int ab 1)),none,[]⟩,
                 ⟨some 8,.j7 (.t 115),none,[]⟩] false []) (
                .region [⟨some 116,.j7 (.t 8),none,[]⟩,
                 ⟨some 117,.bin .sub (.t 116) (.c (.int ab 1)),none,[]⟩,
                 ⟨some 8,.j7 (.t 117),none,[]⟩] false []))))) (
               .skip))))))))))))))) (
           .region [⟨some 118,.bin .add (.t 47) (.c (.int ab 1)),none,[]⟩,
            ⟨some 47,.j7 (.t 118),none,[]⟩] false []))
theorem awe{es:List Ed}{i k:Nat}{e f:Ed}{sw:Bool}{n:Int}(hk:k<es.length)(hf:es.getD k e0=f)(hi:i≤1000)(hk2:k≤1000)(he:akc e)(hfs:akc f)(hn: -2000≤n∧n≤2000){s':PS}{Q:Exit→PS→Prop}
  (h:Q7 es i e sw s')(f45:s'.tmp 45= .d (.ft 4 (es.map D5)))(f46:s'.tmp 46= .d (.int ab es.length))(f47:s'.tmp 47= .d (.int ab k))(f8:s'.tmp 8= .d (.int ab n))
  (hQ:∀s3,Q7 es i e sw s3→s3.tmp 45= .d (.ft 4 (es.map D5))→s3.tmp 46= .d (.int ab es.length)→s3.tmp 47= .d (.int ab (k+1:Nat))→s3.tmp 8= .d (.int ab (n+if k=i then 0 else a1q sw (sn e) f))→Q .normal s3):
  ko P (ak5 A.je) Q s':=by
 unfold ak5;obtain⟨eb,f0,f3,f4,b4,f5,b5,f6,f7,f16,f17,f18⟩:=h;obtain⟨⟨a1,a2⟩,⟨a3,a4⟩,⟨a5,a6⟩,a7,a8⟩:=he;obtain⟨⟨d1,d2⟩,⟨d3,d4⟩,⟨d5,d6⟩,d7,d8⟩:=hfs
 have hlt:(k:Int)<es.length:=by omega
 have hg:=D9 hk;rw[hf]at hg;have wk:=cu ((k:Int)+1) (by omega) (by omega);have x1:=cu (2*f.1.1) (by omega) (by omega);have x2:=cu (2*f.1.2) (by omega) (by omega);have x3:=cu (2*f.2.1) (by omega) (by omega);have x4:=cu (2*f.2.2) (by omega) (by omega);have y1:=cu (2*f.1.1-(e.1.1+e.2.1)) (by omega) (by omega);have y2:=cu (2*f.1.2-(e.1.2+e.2.2)) (by omega) (by omega);have y3:=cu (2*f.2.1-(e.1.1+e.2.1)) (by omega) (by omega);have y4:=cu (2*f.2.2-(e.1.2+e.2.2)) (by omega) (by omega);have z1:=cu (n+1) (by omega) (by omega);have z2:=cu (n-1) (by omega) (by omega);have fin:∀(s3:PS) (x:Int),Q7 es i e sw s3→s3.tmp 45= .d (.ft 4 (es.map D5))→s3.tmp 46= .d (.int ab es.length)→s3.tmp 47= .d (.int ab ((k:Int)+1))→s3.tmp 8= .d (.int ab x)→x=n+(if k=i then 0 else a1q sw (sn e) f)→Q .normal s3:=fun s3 x h1 h2 h3 h4 h5 h6=>hQ s3 h1 h2 h3 (by simpa using h4) (by rw[←h6];exact h5);cases sw
 ·have hc:=Qk A (u:=(2*f.1.1-(e.1.1+e.2.1),2*f.1.2-(e.1.2+e.2.2))) (v:=(2*f.2.1-(e.1.1+e.2.1),2*f.2.2-(e.1.2+e.2.2))) ⟨⟨by simp only;omega,by simp only;omega⟩,by simp only;omega,by simp only;omega⟩ ⟨⟨by simp only;omega,by simp only;omega⟩,by simp only;omega,by simp only;omega⟩
  have hw:a1q false (sn e) f=if decide (0<2*f.1.2-(e.1.2+e.2.2))==decide (0<2*f.2.2-(e.1.2+e.2.2))then 0 else if decide (0<fb (2*f.1.1-(e.1.1+e.2.1),2*f.1.2-(e.1.2+e.2.2)) (2*f.2.1-(e.1.1+e.2.1),2*f.2.2-(e.1.2+e.2.2)))==decide (2*f.1.2-(e.1.2+e.2.2)<2*f.2.2-(e.1.2+e.2.2))then(if 2*f.1.2-(e.1.2+e.2.2)<2*f.2.2-(e.1.2+e.2.2)then 1 else-1)else 0:=rfl
  rw[hw]at fin;generalize fb (2*f.1.1-(e.1.1+e.2.1),2*f.1.2-(e.1.2+e.2.2)) (2*f.2.1-(e.1.1+e.2.1),2*f.2.2-(e.1.2+e.2.2))=cr at hc fin;simp only[ya]at hc
  generalize hp1:2*f.1.1-(e.1.1+e.2.1)=p1 at*
  generalize hp2:2*f.1.2-(e.1.2+e.2.2)=p2 at*
  generalize hp3:2*f.2.1-(e.1.1+e.2.1)=p3 at*
  generalize hp4:2*f.2.2-(e.1.2+e.2.2)=p4 at*
  simp only[reduceIte,fk]at f6 f7;by_cases c0:k=i
  ·subst c0;simp only[go_sem,aa,dc,fp,dv,ey,ae,ah,reduceCtorEq,eb,f3,f5,b5,f6,f7,f45,f47,hg,bp,aq,x1,x2,x3,x4,y1,y2,y3,y4,hp1,hp2,hp3,hp4,gq,wk];refine fin _ n ?_ ?_ ?_ ?_ ?_ ?_
   all_goals first|(simp only[Q7,go_sem,aa,de,reduceCtorEq,f0,f3,f4,b4,f5,b5,f6,f7,f8,f16,f17,f18,f45,f46,f47];done)|simp
  have c0':((k:Int)==i)=false:=by simp;omega
  rw[al c0]at fin;cases c1:(decide (0<p2)==decide (0<p4))
  ·cases c2:(decide (0<cr)==decide (p2<p4))
   ·simp only[go_sem,aa,dc,fp,dv,ey,ae,ah,reduceCtorEq,eb,f3,f5,b5,f6,f7,f45,f47,hg,bp,aq,x1,x2,x3,x4,y1,y2,y3,y4,hp1,hp2,hp3,hp4,c0',c1];refine il hc ?_;simp only[go_sem,aa,reduceCtorEq,f47,c2,wk];refine fin _ n ?_ ?_ ?_ ?_ ?_ ?_
    all_goals first|(simp only[Q7,go_sem,aa,reduceCtorEq,f0,f3,f4,b4,f5,b5,f6,f7,f8,f16,f17,f18,f45,f46,f47];done)|simp[c1,c2]
   by_cases c3:p2<p4
   ·have c4:0<cr:=by simpa[c3]using c2
    simp only[go_sem,aa,dc,fp,dv,ey,ae,ah,reduceCtorEq,eb,f3,f5,b5,f6,f7,f45,f47,hg,bp,aq,x1,x2,x3,x4,y1,y2,y3,y4,hp1,hp2,hp3,hp4,c0',c1];refine il hc ?_;simp only[go_sem,aa,reduceCtorEq,f8,f47,c3,c4,gq,wk,z1];refine fin _ (n+1) ?_ ?_ ?_ ?_ ?_ ?_
    all_goals first|(simp only[Q7,go_sem,aa,reduceCtorEq,f0,f3,f4,b4,f5,b5,f6,f7,f8,f16,f17,f18,f45,f46,f47];done)|simp[c1,c3,c4]
   have c4:¬0<cr:=by simpa[c3]using c2
   simp only[go_sem,aa,dc,fp,dv,ey,ae,ah,reduceCtorEq,eb,f3,f5,b5,f6,f7,f45,f47,hg,bp,aq,x1,x2,x3,x4,y1,y2,y3,y4,hp1,hp2,hp3,hp4,c0',c1];refine il hc ?_;simp only[go_sem,aa,reduceCtorEq,f8,f47,c3,c4,gq,wk,z2];refine fin _ (n-1) ?_ ?_ ?_ ?_ ?_ ?_
   all_goals first|(simp only[Q7,go_sem,aa,reduceCtorEq,f0,f3,f4,b4,f5,b5,f6,f7,f8,f16,f17,f18,f45,f46,f47];done)|(simp[c1,c3,c4];try omega)
  simp only[go_sem,aa,dc,fp,dv,ey,ae,ah,reduceCtorEq,eb,f3,f5,b5,f6,f7,f45,f47,hg,bp,aq,x1,x2,x3,x4,y1,y2,y3,y4,hp1,hp2,hp3,hp4,c0',c1,wk];refine fin _ n ?_ ?_ ?_ ?_ ?_ ?_
  all_goals first|(simp only[Q7,go_sem,aa,reduceCtorEq,f0,f3,f4,b4,f5,b5,f6,f7,f8,f16,f17,f18,f45,f46,f47];done)|simp[c1]
 have hc:=Qk A (u:=(2*f.1.2-(e.1.2+e.2.2),2*f.1.1-(e.1.1+e.2.1))) (v:=(2*f.2.2-(e.1.2+e.2.2),2*f.2.1-(e.1.1+e.2.1))) ⟨⟨by simp only;omega,by simp only;omega⟩,by simp only;omega,by simp only;omega⟩ ⟨⟨by simp only;omega,by simp only;omega⟩,by simp only;omega,by simp only;omega⟩
 have hw:a1q true (sn e) f=if decide (0<2*f.1.1-(e.1.1+e.2.1))==decide (0<2*f.2.1-(e.1.1+e.2.1))then 0 else if decide (0<fb (2*f.1.2-(e.1.2+e.2.2),2*f.1.1-(e.1.1+e.2.1)) (2*f.2.2-(e.1.2+e.2.2),2*f.2.1-(e.1.1+e.2.1)))==decide (2*f.1.1-(e.1.1+e.2.1)<2*f.2.1-(e.1.1+e.2.1))then(if 2*f.1.1-(e.1.1+e.2.1)<2*f.2.1-(e.1.1+e.2.1)then 1 else-1)else 0:=rfl
 rw[hw]at fin;generalize fb (2*f.1.2-(e.1.2+e.2.2),2*f.1.1-(e.1.1+e.2.1)) (2*f.2.2-(e.1.2+e.2.2),2*f.2.1-(e.1.1+e.2.1))=cr at hc fin;simp only[ya]at hc
 generalize hp1:2*f.1.2-(e.1.2+e.2.2)=p1 at*
 generalize hp2:2*f.1.1-(e.1.1+e.2.1)=p2 at*
 generalize hp3:2*f.2.2-(e.1.2+e.2.2)=p3 at*
 generalize hp4:2*f.2.1-(e.1.1+e.2.1)=p4 at*
 simp only[reduceIte]at f6 f7;by_cases c0:k=i
 ·subst c0;simp only[go_sem,aa,dc,fp,dv,ey,ae,ah,reduceCtorEq,eb,f3,f5,b5,f6,f7,f45,f47,hg,bp,aq,x1,x2,x3,x4,y1,y2,y3,y4,hp1,hp2,hp3,hp4,gq,wk];refine fin _ n ?_ ?_ ?_ ?_ ?_ ?_
  all_goals first|(simp only[Q7,go_sem,aa,de,reduceCtorEq,f0,f3,f4,b4,f5,b5,f6,f7,f8,f16,f17,f18,f45,f46,f47];done)|simp
 have c0':((k:Int)==i)=false:=by simp;omega
 rw[al c0]at fin;cases c1:(decide (0<p2)==decide (0<p4))
 ·cases c2:(decide (0<cr)==decide (p2<p4))
  ·simp only[go_sem,aa,dc,fp,dv,ey,ae,ah,reduceCtorEq,eb,f3,f5,b5,f6,f7,f45,f47,hg,bp,aq,x1,x2,x3,x4,y1,y2,y3,y4,hp1,hp2,hp3,hp4,c0',c1];refine il hc ?_;simp only[go_sem,aa,reduceCtorEq,f47,c2,wk];refine fin _ n ?_ ?_ ?_ ?_ ?_ ?_
   all_goals first|(simp only[Q7,go_sem,aa,reduceCtorEq,f0,f3,f4,b4,f5,b5,f6,f7,f8,f16,f17,f18,f45,f46,f47];done)|simp[c1,c2]
  by_cases c3:p2<p4
  ·have c4:0<cr:=by simpa[c3]using c2
   simp only[go_sem,aa,dc,fp,dv,ey,ae,ah,reduceCtorEq,eb,f3,f5,b5,f6,f7,f45,f47,hg,bp,aq,x1,x2,x3,x4,y1,y2,y3,y4,hp1,hp2,hp3,hp4,c0',c1];refine il hc ?_;simp only[go_sem,aa,reduceCtorEq,f8,f47,c3,c4,gq,wk,z1];refine fin _ (n+1) ?_ ?_ ?_ ?_ ?_ ?_
   all_goals first|(simp only[Q7,go_sem,aa,reduceCtorEq,f0,f3,f4,b4,f5,b5,f6,f7,f8,f16,f17,f18,f45,f46,f47];done)|simp[c1,c3,c4]
  have c4:¬0<cr:=by simpa[c3]using c2
  simp only[go_sem,aa,dc,fp,dv,ey,ae,ah,reduceCtorEq,eb,f3,f5,b5,f6,f7,f45,f47,hg,bp,aq,x1,x2,x3,x4,y1,y2,y3,y4,hp1,hp2,hp3,hp4,c0',c1];refine il hc ?_;simp only[go_sem,aa,reduceCtorEq,f8,f47,c3,c4,gq,wk,z2];refine fin _ (n-1) ?_ ?_ ?_ ?_ ?_ ?_
  all_goals first|(simp only[Q7,go_sem,aa,reduceCtorEq,f0,f3,f4,b4,f5,b5,f6,f7,f8,f16,f17,f18,f45,f46,f47];done)|(simp[c1,c3,c4];try omega)
 simp only[go_sem,aa,dc,fp,dv,ey,ae,ah,reduceCtorEq,eb,f3,f5,b5,f6,f7,f45,f47,hg,bp,aq,x1,x2,x3,x4,y1,y2,y3,y4,hp1,hp2,hp3,hp4,c0',c1,wk];refine fin _ n ?_ ?_ ?_ ?_ ?_ ?_
 all_goals first|(simp only[Q7,go_sem,aa,reduceCtorEq,f0,f3,f4,b4,f5,b5,f6,f7,f8,f16,f17,f18,f45,f46,f47];done)|simp[c1]
end
theorem ah4(f:Nat→Int)(k:Nat):ot f (k+1)=ot f k+f k:=rfl
section
variable{P:Program}(A:Pr P)
theorem aqi(es:List Ed)(h1:es.length≤1000)(h2:∀e∈es,SmL e.1∧SmL e.2):iq P A.Ba [R4 es] (.bool (S8 es)):=by
 refine du A.mo A.Zy (by simp) ?_;show ko P (Kq A.je) (lg _ _) _;unfold S8;simp only[Kq,R4,go_sem,aa,reduceCtorEq,ag];refine fh es.length (fun i s'=>s'.base=0∧s'.tmp 0= .d (.ft 4 (es.map D5))∧s'.tmp 16= .d (.ft 4 (es.map D5))∧s'.tmp 17= .d (.int ab es.length)∧s'.tmp 18= .d (.int ab i)∧∀i',i'<i→(Y9 es i'==1)=true) ?_ ?_
 ·simp only[go_sem,aa,reduceCtorEq];intro i' Ds;omega
 rintro i s' hi ⟨eb,f0,f16,f17,f18,hI⟩;by_cases hlt:(i:Int)<es.length
 ·have df:i<es.length:=by omega
  have wi:=cu ((i:Int)+1) (by omega) (by omega);have hg:=D9 df
  have hge:es.getD i e0=es[i]:=by simp[cd,df]
  obtain⟨⟨q1,q2⟩,q3,q4⟩:=h2 _ (cy df);rw[←hge]at q1 q2 q3 q4;have no:(Y9 es i==1)=false→((dn es.length).all fun i=>Y9 es i==1)=false:=fun h=>all_false df h;have hwb:∀k:Nat,-(k:Int)≤ot (wAt es i) k∧ot (wAt es i) k≤k:=aan (aCh es i)
  have hL:Y9 es i=(if swE (es.getD i e0)then-(ot (wAt es i) es.length)else ot (wAt es i) es.length)+
   (if decide ((vw (swE (es.getD i e0)) (es.getD i e0).1).2<(vw (swE (es.getD i e0)) (es.getD i e0).2).2)== !swE (es.getD i e0)then 1 else 0):=rfl
  have hwa:∀k,wAt es i k=if k=i then 0 else a1q (swE (es.getD i e0)) (sn (es.getD i e0)) (es.getD k e0):=fun _=>rfl
  have hes:∀k,k<es.length→akc (es.getD k e0):=fun k hk=>by
   have e:es.getD k e0=es[k]:=by simp[cd,hk]
   rw[e];obtain⟨⟨a,b⟩,c,d⟩:=h2 _ (cy hk);exact⟨a,b,c,d⟩
  have hse:=hes i df
  generalize es.getD i e0=e at*
  obtain⟨⟨a1,a2⟩,⟨a3,a4⟩,⟨a5,a6⟩,a7,a8⟩:=id hse;have w1:=cu (e.1.1+e.2.1) (by omega) (by omega);have w2:=cu (e.1.2+e.2.2) (by omega) (by omega);have hsw:swE e=(e.1.2==e.2.2):=rfl
  have rounds:∀(s':PS) (Q:Exit→PS→Prop),Q7 es i e (swE e) s'→s'.tmp 45= .d (.ft 4 (es.map D5))→s'.tmp 46= .d (.int ab es.length)→s'.tmp 47= .d (.int ab 0)→s'.tmp 8= .d (.int ab 0)→
    (∀s3,Q7 es i e (swE e) s3→s3.tmp 8= .d (.int ab (ot (wAt es i) es.length))→Q (.exit 2) s3)→
    ko P (.loop (
      (.seq (
      .region [⟨some 48,.bin .lss (.t 47) (.t 46),none,[]⟩] false []) (
      (.seq (
       (.cond (.t 48) (
       .skip) (
       .exit 2))) (
       ak5 A.je
      )))))) Q s':=by
   intro s' Q hB g45 g46 g47 g8 hQ;refine fh es.length (fun k s3=>Q7 es i e (swE e) s3∧s3.tmp 45= .d (.ft 4 (es.map D5))∧s3.tmp 46= .d (.int ab es.length)∧s3.tmp 47= .d (.int ab k)∧s3.tmp 8= .d (.int ab (ot (wAt es i) k))) ⟨hB,g45,g46,by simpa using g47,by simpa[ot]using g8⟩ ?_;rintro k s2 hk ⟨hB2,k45,k46,k47,k8⟩
   have hBt:∀(s3:PS) (x:V),Q7 es i e (swE e) s3→Q7 es i e (swE e) {s3 with tmp:=lb s3.tmp 48 x}:=by
    rintro s3 x ⟨eb,f0,f3,f4,b4,f5,b5,f6,f7,f16,f17,f18⟩;simp only[Q7,go_sem,aa,reduceCtorEq,eb,f0,f3,f4,b4,f5,b5,f6,f7,f16,f17,f18]
   by_cases Gt:(k:Int)<es.length
   ·have qg:k<es.length:=by omega
    rw[a8n,Tc,aep];simp only[go_sem,reduceCtorEq,k46,k47,Gt];refine awe A qg rfl (by omega) (by omega) hse (hes k qg) (n:=ot (wAt es i) k) (by have:=hwb k;omega) (hBt s2 _ hB2) ?_ ?_ ?_ ?_ ?_
    ·simp only[go_sem,aa,k45]
    ·simp only[go_sem,aa,k46]
    ·simp only[go_sem,aa,k47]
    ·simp only[go_sem,aa,k8]
    intro s3 m1 m2 m3 m4 m5;rw[a5p];refine⟨qg,m1,m2,m3,m4,?_⟩;rw[m5,ah4,hwa]
   have:k=es.length:=by omega
   subst this;rw[a8n,Tc,aep];simp only[go_sem,reduceCtorEq,k46,k47,Gt];exact hQ _ (hBt s2 _ hB2) (by simp only[go_sem,aa,k8])
  have a1w:=hwb es.length
  generalize ot (wAt es i) es.length=n at*
  have fin:∀b:Bool,(Y9 es i==1)=b→b=true→∀i',i'<i+1→(Y9 es i'==1)=true:=fun b h1 h2=>qf hI (by rw[h1,h2]);cases c0:swE e
  ·have c0':=c0;rw[hsw]at c0';rw[c0]at hL rounds;simp only[fk,ee,Li,vw]at hL;simp only[go_sem,aa,dc,fp,dv,ey,ae,ah,reduceCtorEq,eb,f0,f16,f17,f18,hlt,hg,bp,aq,ag,w1,w2,c0'];refine rounds _ _ ?_ ?_ ?_ ?_ ?_ ?_
   ·simp only[Q7,go_sem,aa,reduceCtorEq,f0,f16,f17,f18]
   ·simp only[go_sem,aa]
   ·simp only[go_sem,aa]
   ·simp only[go_sem,aa]
   ·simp only[go_sem,aa]
   rintro s3 ⟨eb,g0,g3,g4,h4,g5,h5,g6,g7,g16,g17,g18⟩ g8;simp only[reduceIte,fk]at g6 g7;by_cases c1:e.1.2<e.2.2
   ·have wn:=cu (n+1) (by omega) (by omega);rw[decide_eq_true c1]at hL;simp only[gq,dj]at hL;cases c2:(n+1==1)
    ·have c2':(n+1 !=1)=true:=by unfold bne;rw[c2];rfl
     simp only[go_sem,aa,dc,fp,dv,ey,ae,ah,reduceCtorEq,eb,g0,g4,h4,g6,g7,g8,g16,g17,g18,gq,c1,wn,c2',show((0:Int)==1)=false from rfl];rw[no (by rw[hL];exact c2)]
    have c2':(n+1 !=1)=false:=by unfold bne;rw[c2];rfl
    simp only[go_sem,aa,dc,fp,dv,ey,ae,ah,reduceCtorEq,eb,g0,g4,h4,g6,g7,g8,g16,g17,g18,gq,c1,wn,c2',wi,df,show((0:Int)==1)=false from rfl];exact⟨by simp,qf hI (by rw[hL];exact c2)⟩
   rw[decide_eq_false c1]at hL;simp only[show(false==true)=false from rfl,fk,ee,am7]at hL;cases c2:(n==1)
   ·have c2':(n !=1)=true:=by unfold bne;rw[c2];rfl
    simp only[go_sem,aa,dc,fp,dv,ey,ae,ah,reduceCtorEq,eb,g0,g4,h4,g6,g7,g8,g16,g17,g18,gq,c1,c2',show((0:Int)==1)=false from rfl,show(false==true)=false from rfl];rw[no (by rw[hL];exact c2)]
   have c2':(n !=1)=false:=by unfold bne;rw[c2];rfl
   simp only[go_sem,aa,dc,fp,dv,ey,ae,ah,reduceCtorEq,eb,g0,g4,h4,g6,g7,g8,g16,g17,g18,gq,c1,c2',wi,df,show((0:Int)==1)=false from rfl,show(false==true)=false from rfl];exact⟨by simp,qf hI (by rw[hL];exact c2)⟩
  have c0':=c0;rw[hsw]at c0';rw[c0]at hL rounds;simp only[dj,aF3,vw]at hL;have wm:=cu (0-n) (by omega) (by omega)
  have em:(0:Int)-n= -n:=by omega
  rw[em]at wm;simp only[go_sem,aa,dc,fp,dv,ey,ae,ah,reduceCtorEq,eb,f0,f16,f17,f18,hlt,hg,bp,aq,ag,w1,w2,c0'];refine rounds _ _ ?_ ?_ ?_ ?_ ?_ ?_
  ·simp only[Q7,go_sem,aa,reduceCtorEq,f0,f16,f17,f18]
  ·simp only[go_sem,aa]
  ·simp only[go_sem,aa]
  ·simp only[go_sem,aa]
  ·simp only[go_sem,aa]
  rintro s3 ⟨eb,g0,g3,g4,h4,g5,h5,g6,g7,g16,g17,g18⟩ g8;simp only[reduceIte]at g6 g7;by_cases c1:e.1.1<e.2.1
  ·rw[decide_eq_true c1]at hL;simp only[show(true==false)=false from rfl,fk,ee,am7]at hL;cases c2:(-n==1)
   ·have c2':(-n !=1)=true:=by unfold bne;rw[c2];rfl
    simp only[go_sem,aa,dc,fp,dv,ey,ae,ah,reduceCtorEq,eb,g0,g4,h4,g6,g7,g8,g16,g17,g18,gq,c1,c2',em,wm,show((1:Int)==0)=false from rfl,show(true==false)=false from rfl];rw[no (by rw[hL];exact c2)]
   have c2':(-n !=1)=false:=by unfold bne;rw[c2];rfl
   simp only[go_sem,aa,dc,fp,dv,ey,ae,ah,reduceCtorEq,eb,g0,g4,h4,g6,g7,g8,g16,g17,g18,gq,c1,c2',em,wm,wi,df,show((1:Int)==0)=false from rfl,show(true==false)=false from rfl];exact⟨by simp,qf hI (by rw[hL];exact c2)⟩
  have wn:=cu (-n+1) (by omega) (by omega);rw[decide_eq_false c1]at hL;simp only[gq,dj]at hL;cases c2:(-n+1==1)
  ·have c2':(-n+1 !=1)=true:=by unfold bne;rw[c2];rfl
   simp only[go_sem,aa,dc,fp,dv,ey,ae,ah,reduceCtorEq,eb,g0,g4,h4,g6,g7,g8,g16,g17,g18,gq,c1,em,wm,wn,c2',show((1:Int)==0)=false from rfl];rw[no (by rw[hL];exact c2)]
  have c2':(-n+1 !=1)=false:=by unfold bne;rw[c2];rfl
  simp only[go_sem,aa,dc,fp,dv,ey,ae,ah,reduceCtorEq,eb,g0,g4,h4,g6,g7,g8,g16,g17,g18,gq,c1,em,wm,wn,c2',wi,df,show((1:Int)==0)=false from rfl];exact⟨by simp,qf hI (by rw[hL];exact c2)⟩
 have:i=es.length:=by omega
 subst this;simp only[go_sem,aa,reduceCtorEq,eb,f17,f18,hlt];rw[all_true hI]
end
abbrev Adj:=List (Sp×List Sp)
def s9(k v:Sp):Adj→Adj
 |[]=>[(k,[v])]
 |(a,l)::r=>if tf k a then(k,l++[v])::r else(a,l)::s9 k v r
def By(k:Sp):Adj→Option (List Sp)
 |[]=>none
 |(a,l)::r=>if tf k a then some l else By k r
def Lh(k:Sp):Nat→Adj→Option (Nat×List Sp)
 |_,[]=>none
 |i,(a,l)::r=>if tf k a then some (i,l)else Lh k (i+1) r
def Au(es:List Ed):Adj:=es.foldl (fun L e=>s9 e.1 e.2 L) []
def Hd(es:List Ed):Adj:=es.foldl (fun L e=>s9 e.2 e.1 L) []
def S0(L:Adj):D:= .map (L.map fun p=>(ya p.1,vz p.2))
def ents(b:Nat)(av:Nat→Nat):Nat→Adj→List (D×C)
 |_,[]=>[]
 |i,(k,l)::r=>(ya k,.ref (b+2*i) (av (b+2*i)) l.length)::ents b av (i+1) r
theorem apz(k a:Sp):Ep (.row [.int,.int]) (ya k) (ya a)=some (tf k a):=by
 simp[Ep,ya,As,O2,tf]
theorem a4p{α:Type}(k a:Sp)(c:α)(r:List (D×α)):Hc (.row [.int,.int]) (ya k) ((ya a,c)::r)=if tf k a then some (some c)else Hc (.row [.int,.int]) (ya k) r:=by
 show(match Ep (.row [.int,.int]) (ya k) (ya a)with|some true=>_|some false=>_|none=>_)=_
 rw[apz];cases tf k a<;>rfl
theorem Zf{α:Type}(k a:Sp)(v c:α)(r:List (D×α)):Mt (.row [.int,.int]) (ya k) v ((ya a,c)::r)=if tf k a then some ((ya k,v)::r)else(Mt (.row [.int,.int]) (ya k) v r).map ((ya a,c):: ·):=by
 show(match Ep (.row [.int,.int]) (ya k) (ya a)with|some true=>_|some false=>_|none=>_)=_
 rw[apz];cases tf k a<;>rfl
theorem ao2(b:Nat)(av:Nat→Nat)(k:Sp):∀(L:Adj) (i:Nat),Hc (.row [.int,.int]) (ya k) (ents b av i L)=some ((Lh k i L).map fun p=> .ref (b+2*p.1) (av (b+2*p.1)) p.2.length):=by
 intro L
 induction L with
 |nil=>intro i;rfl
 |cons x r ih=>
  intro i;obtain⟨a,l⟩:=x;simp only[ents,Lh,a4p];split
  ·rfl
  exact ih _
theorem aop(k v:Sp):∀(L:Adj) (i:Nat),Lh k i L=none→s9 k v L=L++[(k,[v])]:=by
 intro L
 induction L with
 |nil=>intro i _;rfl
 |cons x r ih=>
  intro i h;obtain⟨a,l⟩:=x;simp only[Lh]at h;split at h
  ·cases h
  rename_i hn;simp only[s9,al hn,ih _ h,xz]
theorem awi(b:Nat)(av:Nat→Nat)(k:Sp)(c:C):∀(L:Adj) (i:Nat),Lh k i L=none→Mt (.row [.int,.int]) (ya k) c (ents b av i L)=some (ents b av i L++[(ya k,c)]):=by
 intro L
 induction L with
 |nil=>intro i _;rfl
 |cons x r ih=>
  intro i h;obtain⟨a,l⟩:=x;simp only[Lh]at h;split at h
  ·cases h
  rename_i hn;simp only[ents,Zf,al hn,ih _ h,ir,xz]
theorem awh(b:Nat)(av:Nat→Nat)(k v:Sp):∀(L:Adj) (i:Nat) (j:Nat) (l:List Sp),Lh k i L=some (j,l)→
  Mt (.row [.int,.int]) (ya k) (C.ref (b+2*j) (av (b+2*j)) (l.length+1)) (ents b av i L)=some (ents b av i (s9 k v L))∧
  i≤j∧(∃a,L[j-i]? =some (a,l)∧(s9 k v L)[j-i]? =some (k,l++[v]))∧(∀q,q≠j-i→(s9 k v L)[q]? =L[q]?)∧(s9 k v L).length=L.length:=by
 intro L
 induction L with
 |nil=>intro i j l h;cases h
 |cons x r ih=>
  intro i j l h;obtain⟨a,l'⟩:=x;simp only[Lh]at h;split at h
  ·rename_i hy
   injection h with h
   injection h with h1 h2
   subst h1 h2;simp only[ents,Zf,s9,bm hy,db,ca,ed,Uz,dm];refine⟨trivial,ay _,⟨a,rfl,trivial⟩,fun q hq=>?_,trivial⟩
   cases q with
   |zero=>exact absurd rfl hq
   |succ q=>rfl
  rename_i hn;obtain⟨k1,k2,⟨a',k3,k4⟩,k5,k6⟩:=ih (i+1) j l h
  have e:j-i=(j-(i+1))+1:=by omega
  simp only[ents,Zf,s9,al hn,k1,ir,ca,k6];rw[e];refine⟨trivial,by omega,⟨a',by simpa using k3,by simpa using k4⟩,fun q hq=>?_,trivial⟩
  cases q with
  |zero=>rfl
  |succ q=>simpa using k5 q (by omega)
theorem atb(b:Nat)(av:Nat→Nat)(k:Sp)(l:List Sp):∀(L:Adj) (i:Nat),ents b av i (L++[(k,l)])=ents b av i L++[(ya k,.ref (b+2*(i+L.length)) (av (b+2*(i+L.length))) l.length)]:=by
 intro L
 induction L with
 |nil=>intro i;rfl
 |cons x r ih=>
  intro i;obtain⟨a,l'⟩:=x
  have e:i+1+r.length=i+(r.length+1):=by omega
  simp only[xz,ents,ih,ca,e]
theorem a5w(b:Nat)(av a7d:Nat→Nat):∀(L:Adj) (i:Nat),(∀j,i≤j→j<i+L.length→a7d (b+2*j)=av (b+2*j))→ents b a7d i L=ents b av i L:=by
 intro L
 induction L with
 |nil=>intro i _;rfl
 |cons x r ih=>
  intro i h;obtain⟨a,l'⟩:=x;simp only[ents];rw[h i (ay _) (by simp),ih (i+1) fun j h1 h2=>h j (by omega) (by simp only[ca];omega)]
theorem ag0(b:Nat)(av:Nat→Nat):∀(L:Adj) (i:Nat),(ents b av i L).length=L.length:=by
 intro L
 induction L with
 |nil=>intro i;rfl
 |cons x r ih=>intro i;obtain⟨a,l'⟩:=x;simp only[ents,ca,ih]
structure Uf(s:PS)(m b:Nat)(L:Adj):Prop where
 mp:s.mp m=some (ents b s.av 0 L)
 da:∀(j:Nat) (p:Sp×List Sp),L[j]? =some p→s.da (b+2*j)=some (.arr 2 (p.2.map Bs))
 free:∀j,L.length≤j→s.da (b+2*j)=none∧s.mp (b+2*j)=none
theorem Uf.frame{s s':PS}{m b:Nat}{L:Adj}(h:Uf s m b L)(h1:s'.mp m=s.mp m)(h2:∀j,s'.da (b+2*j)=s.da (b+2*j))(h3:∀j,s'.av (b+2*j)=s.av (b+2*j))(h4:∀j,s'.mp (b+2*j)=s.mp (b+2*j)):Uf s' m b L where
 mp:=by rw[h1,h.mp,a5w b s.av s'.av L 0 fun j _ _=>h3 j]
 da j p hp:=by rw[h2];exact h.da j p hp
 free j hj:=by rw[h2,h4];exact h.free j hj
theorem aum{s:PS}{m b:Nat}{L:Adj}(h:Uf s m b L)(hm:m<b)(hL:L.length<2^30)(hl:∀p∈L,p.2.length<2^30){x kd y:V}{k v:Sp}(hx:x= .kj m (s.av m))(hk:kd= .d (ya k))(hy:qm s y=some ([Bs v],some 2))(ts:List Nat):
  ∃id s',ale s id (.row [.int,.int]) 2 16 x kd y ts s'∧Uf s' m b (s9 k v L)∧s'.tmp=(fun t=>if t∈ts then .no else s.tmp t)∧(∀i,(∀j,i≠b+2*j)→s'.da i=s.da i∧s'.av i=s.av i)∧(∀i,i≠m→s'.mp i=s.mp i)∧s'.base=s.base:=by
 have hen:s.ents m (s.av m)=some (ents b s.av 0 L):=by unfold PS.ents;rw[bm rfl,h.mp]
 have hlk:=ao2 b s.av k L 0;have az9:(([Bs v]:List (List D)).all fun e=>e.all D.one)=true:=rfl
 cases hf:Lh k 0 L with
 |none=>
  rw[hf]at hlk;have Q0:=awi b s.av k (.ref (b+2*L.length) (s.av (b+2*L.length)+1) 1) L 0 hf;obtain⟨f1,f2⟩:=h.free L.length (ay _);refine⟨b+2*L.length,_,⟨f1,f2,m,s.av m,ya k,_,[Bs v],some 2,hx,hk,hen,hy,rfl,by simp,az9,by rw[ag0];exact hL,.inl ⟨hlk,by simp,_,Q0,rfl⟩⟩,?_,rfl,fun i hi=>?_,fun i hi=>?_,rfl⟩
  ·rw[aop k v L 0 hf]
   have hne:∀j,m≠b+2*j:=fun j=>by omega
   refine⟨?_,fun j p hp=>?_,fun j hj=>?_⟩
   ·simp only[PS.a06,ck,atb,fj];rw[a5w b s.av _ L 0 fun j _ hj=>gu _ _ _ _ (by omega)];rfl
   ·simp only[PS.a06];by_cases hj:j=L.length
    ·subst hj;rw[ck];rw[mb (ay _),Uz]at hp;simp only[dm,aj]at hp;subst hp;rfl
    rw[gu _ _ _ _ (by omega)]
    have hlt:j<L.length:=by
     have:=(aw.1 hp).1;simp only[db,ca,ed]at this;omega
    rw[l8 hlt]at hp;exact h.da j p hp
   simp only[db,ca,ed]at hj;simp only[PS.a06];rw[gu _ _ _ _ (by omega),gu _ _ _ _ (by omega)];exact h.free j (by omega)
  ·simp only[PS.a06];rw[gu _ _ _ _ (hi _),gu _ _ _ _ (hi _)];exact⟨rfl,rfl⟩
  simp only[PS.a06];rw[gu _ _ _ _ hi]
 |some q=>
  obtain⟨j,l⟩:=q;rw[hf]at hlk;obtain⟨k1,_,⟨a,k3,k4⟩,k5,k6⟩:=awh b s.av k v L 0 j l hf;rw[Uy]at k3 k4 k5;have hb:=h.da j _ k3
  have he:s.dd (b+2*j) (s.av (b+2*j))=some (2,l.map Bs):=by unfold PS.dd;rw[bm rfl,hb]
  have hll:=hl _ (jt k3);have hjl:j<L.length:=(aw.1 k3).1;obtain⟨f1,f2⟩:=h.free L.length (ay _);refine⟨b+2*L.length,_,⟨f1,f2,m,s.av m,ya k,_,[Bs v],some 2,hx,hk,hen,hy,rfl,by simp,az9,by rw[ag0];exact hL,.inr ⟨_,_,_,_,hlk,he,by simp,by simp only[ca,ed];simp only at hll;omega,_,k1,rfl⟩⟩,?_,rfl,fun i hi=>?_,fun i hi=>?_,rfl⟩
  ·refine⟨?_,fun q p hp=>?_,fun q hq=>?_⟩
   ·simp only[PS.a06,ck]
   ·simp only[PS.a06];by_cases hq:q=j
    ·subst hq;rw[ck];rw[k4]at hp
     injection hp with hp
     subst hp;simp
    rw[gu _ _ _ _ (by omega)];rw[k5 q hq]at hp;exact h.da q p hp
   rw[k6]at hq;simp only[PS.a06];rw[gu _ _ _ _ (by omega),gu _ _ _ _ (by omega)];exact h.free q hq
  ·simp only[PS.a06];rw[gu _ _ _ _ (hi _)];exact⟨rfl,trivial⟩
  simp only[PS.a06];rw[gu _ _ _ _ hi]
theorem aka(k v:Sp):∀L:Adj,(s9 k v L).length≤L.length+1:=by
 intro L
 induction L with
 |nil=>simp[s9]
 |cons x r ih=>
  obtain⟨a,l⟩:=x;simp only[s9];split
  ·simp
  simp only[ca];omega
theorem agq(k v:Sp)(n:Nat):∀L:Adj,(∀p∈L,p.2.length≤n)→∀p∈s9 k v L,p.2.length≤n+1:=by
 intro L
 induction L with
 |nil=>intro _ p hp;simp[s9]at hp;subst hp;simp
 |cons x r ih=>
  obtain⟨a,l⟩:=x;intro h p hp;simp only[s9]at hp;split at hp
  ·rcases dq.1 hp with rfl|hp
   ·have:=h (a,l) (by simp);simp only[db,ca,ed];simp only at this;omega
   have:=h p (by simp[hp]);omega
  rcases dq.1 hp with rfl|hp
  ·have:=h (a,l) (by simp);simp only at this⊢;omega
  exact ih (fun p hp=>h p (by simp[hp])) p hp
theorem afu(f:Ed→Sp×Sp)(es:List Ed):(es.foldl (fun L e=>s9 (f e).1 (f e).2 L) []).length≤es.length∧∀p∈es.foldl (fun L e=>s9 (f e).1 (f e).2 L) [],p.2.length≤es.length:=by
 have:∀r:List Ed,((r.reverse).foldl (fun L e=>s9 (f e).1 (f e).2 L) []).length≤r.length∧∀p∈(r.reverse).foldl (fun L e=>s9 (f e).1 (f e).2 L) [],p.2.length≤r.length:=by
  intro r
  induction r with
  |nil=>simp
  |cons e r ih=>
   rw[uy,mc];simp only[qe,av5,ca];exact⟨ie (aka _ _ _) (by have:=ih.1;omega),agq _ _ _ _ ih.2⟩
 have h:=this es.reverse
 rwa[ug,a1h]at h
theorem Un(es:List Ed):(Au es).length≤es.length∧∀p∈Au es,p.2.length≤es.length:=afu (fun e=>(e.1,e.2)) es
theorem ase(es:List Ed):(Hd es).length≤es.length∧∀p∈Hd es,p.2.length≤es.length:=afu (fun e=>(e.2,e.1)) es
theorem ai0{es:List Ed}{k:Nat}(h:k<es.length):Au (es.take (k+1))=s9 (es.getD k e0).1 (es.getD k e0).2 (Au (es.take k)):=by
 unfold Au;rw[fm,mc];simp[h,cd]
theorem aoa{es:List Ed}{k:Nat}(h:k<es.length):Hd (es.take (k+1))=s9 (es.getD k e0).2 (es.getD k e0).1 (Hd (es.take k)):=by
 unfold Hd;rw[fm,mc];simp[h,cd]
section
variable{P:Program}{K:PS→Prop}{s:PS}{r:List RI}
theorem a9x{m b:Nat}{L:Adj}(h:Uf s m b L)(hm:m<b)(hL:L.length<2^30)(hl:∀p∈L,p.2.length<2^30){x kd y:V}{k v:Sp}(hx:x= .kj m (s.av m))(hk:kd= .d (ya k))(hy:qm s y=some ([Bs v],some 2))(ts:List Nat)
  (hK:∀s',Uf s' m b (s9 k v L)→s'.tmp=(fun t=>if t∈ts then .no else s.tmp t)→(∀i,(∀j,i≠b+2*j)→s'.da i=s.da i∧s'.av i=s.av i)→(∀i,i≠m→s'.mp i=s.mp i)→s'.base=s.base→l5 P r s' K):
  azd P (.row [.int,.int]) 2 16 x kd y ts none s (Ab P r K):=by
 obtain⟨id,s',h1,h2,h3,h4,h5,h6⟩:=aum h hm hL hl hx hk hy ts;exact⟨id,s',h1,hK s' h2 h3 h4 h5 h6⟩
end
def ayb(es:List Ed):D:= .agg [S0 (Au es),S0 (Hd es)]
def M8(b n:Nat):List Nat:=(dn n).map fun j=>b+2*j
theorem Wg{b n i:Nat}:i∈M8 b n↔∃j,j<n∧i=b+2*j:=by
 unfold M8;rw[iw];constructor
 ·rintro⟨j,hj,rfl⟩;exact⟨j,ep.1 hj,rfl⟩
 rintro⟨j,hj,rfl⟩;exact⟨j,ep.2 hj,rfl⟩
def fE(p:Sp×List Sp):D×C:=(ya p.1,.d (vz p.2))
theorem afo{s:PS}{b:Nat}{L:Adj}{ids:List Nat}(hb:∀(j:Nat) (p:Sp×List Sp),L[j]? =some p→s.da (b+2*j)=some (.arr 2 (p.2.map Bs)))(hi:∀j,j<L.length→b+2*j∈ids):
  (ents b s.av 0 L).map (fun e=>(e.1,C.uu s ids e.2))=L.map fE:=by
 have:∀(L':Adj) (i:Nat),(∀j p,L'[j]? =some p→L[i+j]? =some p)→(ents b s.av i L').map (fun e=>(e.1,C.uu s ids e.2))=L'.map fE:=by
  intro L'
  induction L' with
  |nil=>intro i _;rfl
  |cons x r ih=>
   intro i h;obtain⟨a,l⟩:=x;have h0:=h 0 (a,l) rfl;rw[Bw]at h0;have hlt:=(aw.1 h0).1;have hbl:=hb i _ h0
   have he:s.dd (b+2*i) (s.av (b+2*i))=some (2,l.map Bs):=by unfold PS.dd;rw[bm rfl,hbl]
   simp only[ents,gf,ih (i+1) fun j p hp=>by have:=h (j+1) p (by simpa using hp);rw[←this];congr 1;omega]
   congr 1
   simp only[C.uu,bm (hi i hlt),he,ag,dj,fE,vz]
 exact this L 0 fun j p hp=>by rw[fj];exact hp
theorem ayc(L:Adj):Ys (L.map fE)=some (L.map fun p=>(ya p.1,vz p.2)):=by
 induction L with
 |nil=>rfl
 |cons x r ih=>simp only[gf,fE,Ys,ih]
section
variable{P:Program}(A:Pr3 P)
theorem akq(es:List Ed)(hes:es.length≤2^20):iq P A.sf [R4 es] (ayb es):=by
 refine du A.mo A.a2c (by simp) ?_;show ko P Mg (lg _ _) _;simp only[Mg,R4,go_sem,aa,ae,ah,reduceCtorEq,PS.ents,ez]
 refine r9 (fun s'=>s'.base=0∧s'.tmp 2= .ic 2 (s'.av 2) 0∧s'.da 2=some (.loc [.d .I0,.d .I0])∧s'.tmp 3= .ic 3 (s'.av 3) 0∧s'.da 3=some (.loc [.kj 6 (s'.av 6),.kj 7 (s'.av 7)])∧
  Uf s' 6 1000 (Au es)∧Uf s' 7 1001 (Hd es)) ?_ ?_
 ·refine fh es.length (fun k s'=>s'.base=0∧s'.tmp 2= .ic 2 (s'.av 2) 0∧s'.da 2=some (.loc [.d .I0,.d .I0])∧s'.tmp 3= .ic 3 (s'.av 3) 0∧s'.da 3=some (.loc [.kj 6 (s'.av 6),.kj 7 (s'.av 7)])∧
   Uf s' 6 1000 (Au (es.take k))∧Uf s' 7 1001 (Hd (es.take k))∧s'.tmp 9= .d (.ft 4 (es.map D5))∧s'.tmp 10= .d (.int ab es.length)∧s'.tmp 11= .d (.int ab k)) ?_ ?_
  ·simp only[go_sem,aa,ag];refine⟨⟨rfl,?_,?_⟩,⟨rfl,?_,?_⟩⟩
   ·intro j p hp;simp[Au]at hp
   ·intro j _;simp only[ak];exact⟨by rw[al (by omega),al (by omega),al (by omega)],by rw[al (by omega),al (by omega)]⟩
   ·intro j p hp;simp[Hd]at hp
   intro j _;simp only[ak];exact⟨by rw[al (by omega),al (by omega),al (by omega)],by rw[al (by omega),al (by omega)]⟩
  rintro k s' hk ⟨eb,f2,b2,f3,b3,ho,hi,f9,f10,f11⟩;by_cases hlt:(k:Int)<es.length
  ·have df:k<es.length:=by omega
   have wk:=cu ((k:Int)+1) (by omega) (by omega);have lo:=Un (es.take k);have li:=ase (es.take k)
   have ltk:(es.take k).length≤2^20:=by simp;omega
   simp only[go_sem,aa,dc,fp,dv,ey,ae,ah,reduceCtorEq,dh,eb,f3,b3,f9,f10,f11,hlt,D9 df,bp,aq]
   refine a9x (m:=6) (b:=1000) (k:=(es.getD k e0).1) (v:=(es.getD k e0).2) (L:=Au (es.take k)) ?_ (by omega) (by omega) (fun p hp=>by have:=lo.2 p hp;omega) ?_ rfl ?_ _ ?_
   ·refine ho.frame ?_ (fun j=>?_) (fun j=>?_) (fun j=>?_)
    ·rfl
    ·simp only[ak];rw[al (by omega),al (by omega),al (by omega)]
    ·simp only[ak];rw[al (by omega),al (by omega)]
    rfl
   ·simp only[ak,aa,reduceIte]
   ·simp only[qm,PS.dd,ak,aa,reduceIte,ca,ed,Bs]
   intro s2 ho2 g1 g2 g3 g4;have p3:=g2 3 (fun j=>by omega);have p2:=g2 2 (fun j=>by omega);have p5:=g2 5 (fun j=>by omega);have p6:=g2 6 (fun j=>by omega);have p7:=g2 7 (fun j=>by omega);have m7:=g3 7 (by omega);simp only[ak,aa,reduceIte]at p3 p2 p5 p6 p7;simp only[go_sem,aa,dc,fp,dv,ey,ae,ah,dh,g1,g4,p3.1,p3.2,p5.1,p5.2,dq,kh,or_false,f3,b3]
   refine a9x (m:=7) (b:=1001) (k:=(es.getD k e0).2) (v:=(es.getD k e0).1) (L:=Hd (es.take k)) ?_ (by omega) (by omega) (fun p hp=>by have:=li.2 p hp;omega) ?_ rfl ?_ _ ?_
   ·refine hi.frame ?_ (fun j=>?_) (fun j=>?_) (fun j=>?_)
    ·exact m7
    ·have:=(g2 (1001+2*j) (fun j'=>by omega)).1;simp only[ak]at this⊢;rw[al (by omega),this,al (by omega),al (by omega),al (by omega)]
    ·have:=(g2 (1001+2*j) (fun j'=>by omega)).2;simp only[ak]at this⊢;rw[al (by omega),this,al (by omega),al (by omega)]
    exact g3 _ (by omega)
   ·simp only[ak,aa,reduceIte,p7.2]
   ·simp only[qm,PS.dd,ak,reduceIte,ca,ed,Bs]
   intro s3 hi2 q1 q2 q3 q4;have r3:=q2 3 (fun j=>by omega);have r2:=q2 2 (fun j=>by omega);have r6:=q2 6 (fun j=>by omega);have r7:=q2 7 (fun j=>by omega);simp only[ak,aa,reduceIte]at r3 r2 r6 r7;simp only[go_sem,aa,reduceCtorEq,q1,q4,r2.1,r2.2,r3.1,r3.2,r6.2,r7.2,p2.1,p2.2,p3.1,p3.2,p6.2,p7.2,dq,kh,or_false,f2,b2,f3,b3,f9,f10,f11,wk,df,ai0 df,aoa df];refine⟨ho2.frame ?_ (fun j=>?_) (fun j=>?_) (fun j=>?_),hi2.frame rfl (fun j=>rfl) (fun j=>rfl) (fun j=>rfl),by simp⟩
   ·exact q3 6 (by omega)
   ·have:=(q2 (1000+2*j) (fun j'=>by omega)).1;simp only[ak]at this⊢;rw[this,al (by omega)]
   ·have:=(q2 (1000+2*j) (fun j'=>by omega)).2;simp only[ak]at this⊢;rw[this,al (by omega)]
   exact q3 _ (by omega)
  have:k=es.length:=by omega
  subst this;rw[dt]at ho hi;simp only[go_sem,aa,reduceCtorEq,eb,f2,b2,f3,b3,f10,f11,hlt];exact⟨ho.frame rfl (fun j=>rfl) (fun j=>rfl) (fun j=>rfl),hi.frame rfl (fun j=>rfl) (fun j=>rfl) (fun j=>rfl)⟩
 rintro s' ⟨eb,f2,b2,f3,b3,ho,hi⟩;simp only[go_sem]
 have V9:(999::(M8 1000 (Au es).length++M8 1001 (Hd es).length))≠[]:=by simp
 refine T7 (999::(M8 1000 (Au es).length++M8 1001 (Hd es).length)) ?_
 have Bc:∀i,i<999→i∉(999::(M8 1000 (Au es).length++M8 1001 (Hd es).length)):=by
  intro i hi h;simp only[dq,jm,Wg]at h;omega
 have n2:=Jt (s:=s') V9 2;have n3:=Jt (s:=s') V9 3;have nb2:=Le (s:=s') V9 (Bc 2 (by omega));have nb3:=Le (s:=s') V9 (Bc 3 (by omega));have nm6:=ac7 (s:=s') V9 (Bc 6 (by omega));have nm7:=ac7 (s:=s') V9 (Bc 7 (by omega));have nv:=a3b (s:=s') V9;have nb:=Ty (999::(M8 1000 (Au es).length++M8 1001 (Hd es).length)) s';simp only[a9y,ho.mp,hi.mp,ir]at nm6 nm7;rw[afo ho.da fun j hj=>by simp only[dq,jm,Wg];exact .inr (.inl ⟨j,hj,rfl⟩)]at nm6;rw[afo hi.da fun j hj=>by simp only[dq,jm,Wg];exact .inr (.inr ⟨j,hj,rfl⟩)]at nm7;simp only[f2,f3,V.uu]at n2 n3;simp only[Ii,b2,b3,gf,ni,C.uu,al (Bc 6 (by omega)),al (Bc 7 (by omega))]at nb2 nb3;rw[eb]at nb
 generalize s'.uu (999::(M8 1000 (Au es).length++M8 1001 (Hd es).length))=s2 at*
 rw[←nv]at n2 n3 nb3;simp only[go_sem,aa,ae,PS.ents,ez,n2,n3,nb2,nb3,nm6,nm7,nb,ayc,ayb,S0]
end
def Ik(sz by_:Nat)(z:List D):di:=
 (.seq (
 .region [⟨some 2,.j7 (.c .cq),none,[]⟩] false []) (
 (.seq (
  (.seq (
  .region [⟨some 3,.j7 (.t 0),none,[]⟩,
   ⟨some 4,.Jl .ft false (.t 3),none,[]⟩] false []) (
  (.cond (.t 4) (
   (.seq (
   .region [⟨some 2,.j7 (.c .cq),none,[]⟩] false []) (
   .ret))) (
   .skip))))) (
  (.seq (
  .region [⟨some 5,.yk false 0 sz z [],none,[]⟩,
   ⟨some 6,.j7 (.t 0),none,[]⟩,
   ⟨some 7,.app sz by_ (.t 5) (.t 6),none,[]⟩,
   ⟨some 2,.j7 (.t 7),none,[]⟩] false []) (
  .ret))))))
def Bq(m:Mem)(rs:List Il)(m':Mem)(r:V):Exit→PS→Prop:=fun e s=>(e= .normal∨e= .ret)∧sv s rs=some r∧Clean s.mem m'
theorem ate{m m':Mem}{rs:List Il}{r:V}{s:PS}:Bq m rs m' r .ret s=(sv s rs=some r∧Clean s.mem m'):=by simp[Bq]
theorem ag2{m m':Mem}{rs:List Il}{r:V}{s:PS}:Bq m rs m' r .normal s=(sv s rs=some r∧Clean s.mem m'):=by simp[Bq]
attribute [go_sem] ate ag2
section
variable{P:Program}
theorem a0s{sz by_:Nat}{z:List D}:ko P (Ik sz by_ z) (lg [.tmp 2] .cq) (start [.cq]):=by
 simp only[Ik,go_sem,aa,reduceCtorEq]
theorem ar9{sz by_:Nat}{z:List D}:ko P (Ik sz by_ z) (lg [.tmp 2] (.ft sz [])) (start [.Np]):=by
 simp only[Ik,go_sem,aa,ah,reduceCtorEq,dh,Lo,qm,azp]
theorem awg{sz by_:Nat}{z:List D}{dd:List (List D)}(hne:dd≠[])(ho:∀e∈dd,e.all D.one=true)(hb:dd.length*by_≤2^47):ko P (Ik sz by_ z) (lg [.tmp 2] (.ft sz dd)) (start [.ft sz dd]):=by
 have ho':(dd.all fun e=>e.all D.one)=true:=cz.2 ho
 cases dd with
 |nil=>exact absurd rfl hne
 |cons e r=>
  simp only[Ik,go_sem,aa,reduceCtorEq,dh,Lo,qm];simp only[ca]at hb;simp only[Vi]at ho';simp only[ho',go_sem,aa,hb]
theorem Ub(hm:P.follows .mixedOrders=true){f:Nat}{sz by_:Nat}{z:List D}(hf:ew P f {}=some (Ik sz by_ z,[.tmp 2],8)){dd:List (List D)}(ho:∀e∈dd,e.all D.one=true)(hb:dd.length*by_≤2^47):iq P f [.ft sz dd] (.ft sz dd):=by
 by_cases hne:dd=[]
 ·subst hne;exact iq.split ((du hm hf (by simp) a0s).M7 Ku) (du hm hf (by simp) ar9)
 exact du hm hf (by simp) (awg hne ho hb)
theorem ap4(hm:P.follows .mixedOrders=true){f:Nat}{sz by_:Nat}{z:List D}(hf:ew P f {}=some (Ik sz by_ z,[.tmp 2],8)):iq P f [.cq] .cq:=du hm hf (by simp) a0s
def Mem.put(m:Mem)(id v:Nat)(b:B):Mem:=⟨lb m.da id (some b),lb m.av id v,m.mp⟩
theorem Mem.Pu{m:Mem}{id v sz:Nat}{dd:List (List D)}:∀i b,(m.put id v (.arr sz dd)).da i=some b→m.da i=some b∨M4 (m.put id v (.arr sz dd)) b:=by
 intro i b hb;simp only[Mem.put,ak]at hb;split at hb
 ·injection hb with hb;subst hb;exact .inr trivial
 exact .inl hb
theorem Mem.La{m:Mem}{id v:Nat}{b:B}(h:m.av id≤v):∀i,m.av i≤(m.put id v b).av i:=by
 intro i;simp only[Mem.put,ak];split
 ·rename_i h';subst h';exact h
 exact ay _
theorem aa6(hm:P.follows .mixedOrders=true){f:Nat}{sz by_:Nat}{z:List D}(hf:ew P f {}=some (Ik sz by_ z,[.tmp 2],8)){dd:List (List D)}(hne:dd≠[])(ho:∀e∈dd,e.all D.one=true)(hb:dd.length*by_≤2^47)
  (m:Mem)(b:Nat):qz P f m [.d (.ft sz dd)] (m.put (b+5) (m.av (b+5)+1) (.arr sz dd)) (.ref (b+5) (m.av (b+5)+1) dd.length):=by
 refine mq hm hf (by simp) b (fun c=>?_) (Mem.La (by omega)) Mem.Pu (fun i es hi=> .inl hi) (by simp[Gu,Mem.put,ck]);show ko P (Ik sz by_ z) (Bq m [.tmp 2] _ _) _;have ho':(dd.all fun e=>e.all D.one)=true:=cz.2 ho
 cases dd with
 |nil=>exact absurd rfl hne
 |cons e r=>
  simp only[Ik,enter,go_sem,aa,reduceCtorEq,dh,Lo,qm,azs];simp only[ca]at hb;simp only[Vi]at ho';simp only[ho',go_sem,aa,hb,sv,Ac];intro i;simp only[Mem.put,PS.mem,ak];by_cases hi:i=b+5
  ·subst hi;simp
  simp[hi]
end
section
variable{P:Program}{K:PS→Prop}{s:PS}{r:List RI}{d:Option Nat}
theorem a6a{c:Option D}{g:Nat}{iy:List D}{own:Bool}{a x:D}(h:c=some (.nu g iy))(h2:iq P g (a::iy) x)(hx:x.flat=true)(h4:l5 P r (s.put d (.d x)) K):ali P c own [.d a] d s (Ab P r K):=by
 subst h;exact⟨[a],x,rfl,h2.toC,.inl hx,h4⟩
theorem qw{f:Nat}{args:List V}{ds:List D}{x:D}(h1:J0 s args=some ds)(h2:iq P f ds x)(hx:x.flat=true)(h4:l5 P r (s.put d (.d x)) K):F9 P f args [] false d s (Ab P r K):=
 ⟨ds,x,h1,by rw[y0];exact h2.toC,.inl hx,h4⟩
end
theorem Ry(p:Nat→Bool)(n:Nat):(xi p n= -1∧∀i,i<n→p i=false)∨∃i,i<n∧xi p n=(i:Int)∧p i=true∧∀k,k<i→p k=false:=by
 cases h:(dn n).find? p with
 |none=>
  refine .inl ⟨by unfold xi;rw[h],fun i hi=>?_⟩;have:=X8.1 h i (ep.2 hi);simpa using this
 |some i=>
  obtain⟨h1,asL,bs,h2,h3⟩:=Z3.1 h;have hi:i<n:=ep.1 (Ug h)
  have hk:∀k,k<i→p k=false:=fun k hk=>by
   have hlen:asL.length=i:=by
    have h5:(dn n)[asL.length]? =some i:=by rw[h2,mb (ay _),Uz];rfl
    have h6:=(aw.1 h5);obtain⟨h7,h8⟩:=h6;rw[List.getElem_range]at h8;exact h8
   have hk1:asL[k]? =some k:=by
    have h5:(dn n)[k]? =some k:=M5 (by omega);rw[h2,l8 (by omega)]at h5;exact h5
   simpa using h3 k (jt hk1)
  exact .inr ⟨i,hi,by unfold xi;rw[h],h1,hk⟩
theorem filter_none{α:Type}{l:List α}{p:α→Bool}(h:∀x∈l,p x=false):l.filter (fun x=> !p x)=l:=by
 rw[a1k];intro x hx;simp[h x hx]
theorem a15{l:List Sp}{p:Sp→Bool}{j:Nat}(h:j<l.length):(l.take (j+1)).filter (fun x=> !p x)=(l.take j).filter (fun x=> !p x)++if p l[j]then[]else[l[j]]:=by
 rw[fm,a7a];simp only[ax h,alv,aaf,List.filter_nil];cases p l[j]<;>rfl
def Ky(m:Mem)(id av:Nat)(l:List Sp)(p:Sp→Bool):Mem:=if l.any p then m.put id (av+1) (.arr 2 ((l.filter fun x=> !p x).map Bs))else m
def a07(id av:Nat)(l:List Sp)(p:Sp→Bool):V:= .ref id (if l.any p then av+1 else av) (l.filter fun x=> !p x).length
section
variable{P:Program}(A:Pr3 P)
theorem ab2(l:List Sp)(hl:l.length≤2^30){m:Mem}{id av b q qv:Nat}{g:Nat}{n1 n2:D}{p:Sp→Bool}(hb:m.da id=some (.arr 2 (l.map Bs)))(hv:m.av id=av)
  (afc:m.da (b+7)=none∧m.mp (b+7)=none)(hid:id≠b+7)(aBd:m.mp id=none)(hq:m.da q=some (.loc [.d n1,.d n2]))(hqv:m.av q=qv)(hq1:q≠id)(hq2:q≠b+7)
  (hp:∀x∈l,iq P g [.agg (Bs x),.te [n1,n2] 0] (.bool (p x))):
  qz P A.ll m [.ref id av l.length,.nu g [(q,qv)]] (Ky m id av l p) (a07 id av l p):=by
 have hI:=ae1 A.toPr (l:=l) (g:=g) (iy:=[.te [n1,n2] 0]) (p:=fun i=>p (l.getD i (0,0))) (fun i hi=>by
  have e:l.getD i (0,0)=l[i]:=by simp[cd,hi]
  simp only[e]
  exact hp _ (cy hi)) (by omega)
 refine mq A.mo A.Jp (by simp) b (fun cx=>?_) (fun i=>?_) (fun i b' va=>?_) (fun i es hi=> .inl ?_) ?_
 ·show ko P (x9 A.jw) (Bq m [.tmp 4] _ _) _;simp only[x9,enter,go_sem,aa,de,reduceCtorEq];refine qw (ds:=[vz l,.nu g [.te [n1,n2] 0]]) ?_ hI rfl ?_
  ·simp only[go_sem,hb,hv,hq,hqv,ag,vz,nj,rb]
  rcases Ry (fun i=>p (l.getD i (0,0))) l.length with ⟨h1,h2⟩|⟨i0,h0,h1,h2,h3⟩
  ·have a7r:l.any p=false:=by
    rw[auu];intro x hx;obtain⟨i,hi,rfl⟩:=i6.1 hx;have:=h2 i hi;simpa[cd,hi]using this
   have hf:l.filter (fun x=> !p x)=l:=filter_none fun x hx=>by simpa using auu.1 a7r x hx
   simp only[go_sem,aa,L7,de,reduceCtorEq,h1,a07,Ky,a7r,hf,sv,Ac];exact fun i=>⟨.inr ⟨rfl,rfl⟩,.inr ⟨rfl,rfl⟩⟩
  have h0':=h0
  have h0:p l[i0]=true:=by simpa[cd,h0]using h2
  have a7r:l.any p=true:=A9.2 ⟨_,cy _,h0⟩
  have hk0:∀x∈l.take i0,p x=false:=by
   intro x hx;obtain⟨k,hk,rfl⟩:=i6.1 hx;simp only[dw]at hk;have:=h3 k (by omega)
   have hkl:k<l.length:=by omega
   simpa[cd,hkl]using this
  have hw0:=cu ((i0:Int)+1) (by omega) (by omega)
  have hne:((i0:Int)== -1)=false:=by simp
  simp only[go_sem,aa,de,reduceCtorEq,h1,hne,hw0]
  refine r9 (fun s'=>s'.base=b∧s'.tmp 0= .ref id av l.length∧s'.mp=m.mp∧s'.av id=av∧(∀k,k≠id→k≠b+7→s'.da k=m.da k∧s'.av k=m.av k)∧
   s'.tmp 5= .d (.int ab ((l.filter fun x=> !p x).length:Nat))∧∃w:List Sp,w.length=l.length∧s'.da id=some (.arr 2 (w.map Bs))∧w.take (l.filter fun x=> !p x).length=l.filter fun x=> !p x) ?_ ?_
  ·refine fh (l.length-(i0+1)) (fun k s'=>s'.base=b∧s'.tmp 0= .ref id av l.length∧s'.tmp 1= .nu g [(q,qv)]∧s'.mp=m.mp∧s'.av id=av∧(∀k,k≠id→k≠b+7→s'.da k=m.da k∧s'.av k=m.av k)∧
    s'.tmp 6= .d (.int ab ((i0+1+k:Nat):Int))∧s'.tmp 5= .d (.int ab (((l.take (i0+1+k)).filter fun x=> !p x).length:Nat))∧∃w:List Sp,w.length=l.length∧s'.da id=some (.arr 2 (w.map Bs))∧
    w.take ((l.take (i0+1+k)).filter fun x=> !p x).length=((l.take (i0+1+k)).filter fun x=> !p x)∧w.drop (i0+1+k)=l.drop (i0+1+k)) ?_ ?_
   ·have e1:(l.take (i0+1+0)).filter (fun x=> !p x)=l.take i0:=by
     rw[Bw,a15 h0',h0,filter_none hk0];simp
    rw[e1]
    have e2:(l.take i0).length=i0:=by simp;omega
    simp only[go_sem,aa,reduceCtorEq,e2];exact⟨hv,fun k _ _=>trivial,by rw[Sl];rfl,l,rfl,hb,rfl,rfl⟩
   rintro k s' hk ⟨eb,f0,f1,emp,ev,fr,f6,f5,w,w1,w2,w3,w4⟩;by_cases hlt:((i0+1+k:Nat):Int)<l.length
   ·have df:i0+1+k<l.length:=by omega
    have hkn:k<l.length-(i0+1):=by omega
    have wj:=cu (((i0+1+k:Nat):Int)+1) (by omega) (by omega)
    have hwj:i0+1+k<w.length:=by omega
    have hg:=D8 hwj
    have hwl:w.getD (i0+1+k) (0,0)=l[i0+1+k]:=by
     have h5:(w.drop (i0+1+k))[0]? =(l.drop (i0+1+k))[0]? :=by rw[w4]
     simp only[oo,Bw]at h5;rw[D2,h5,ax df];rfl
    rw[hwl]at hg;have re:=a15 (p:=p) df;have aIj:((l.take (i0+1+k)).filter fun x=> !p x).length≤i0+1+k:=ie (zg _ _) (by simp;omega);have wi:=cu ((((l.take (i0+1+k)).filter fun x=> !p x).length:Int)+1) (by omega) (by omega)
    generalize hF:(l.take (i0+1+k)).filter (fun x=> !p x)=F at*
    have hFw:F.length<w.length:=by omega
    have hgF:=D8 hFw;have fq:=fr q hq1 hq2;rw[hq,hqv]at fq;have aDs:¬(b+7=id):=fun h=>hid h.symm
    have a7q:∀x:Sp,(w.map Bs).set F.length [.int ab x.1,.int ab x.2]=(w.set F.length x).map Bs:=fun x=>by rw[List.map_set];rfl
    have aIk:F.length<l.length:=by omega
    have aGu:(F.length:Int)<l.length:=by omega
    simp only[go_sem,aa,ae,reduceCtorEq,eb,f0,f1,f6,ev,w2,w1,ag,hlt,hg,bp,aq,hq2,fq.1,fq.2,nj,rb];refine a6a rfl (hp l[i0+1+k] (cy _)) rfl ?_
    have frame:∀(u:Nat→Option B) (v:Nat→Nat),(∀j,j≠id→j≠b+7→u j=s'.da j∧v j=s'.av j)→∀j,j≠id→j≠b+7→u j=m.da j∧v j=m.av j:=fun u v huv j h1 h2=>by
     obtain⟨k1,k2⟩:=huv j h1 h2;obtain⟨k3,k4⟩:=fr j h1 h2;exact⟨k1.trans k3,k2.trans k4⟩
    have ej:((i0+1+k:Nat):Int)+1=((i0+1+(k+1):Nat):Int):=by omega
    have azi:w.drop (i0+1+(k+1))=l.drop (i0+1+(k+1)):=by
     have:=congrArg (aL7 1) w4;simpa[am3,qj]using this
    cases c1:p l[i0+1+k]
    ·rw[c1]at re;simp only[fk,ee]at re;simp only[go_sem,aa,ae,reduceCtorEq,f0,f1,f5,f6,ev,w2,w1,ag,bp,aq,hid,hgF,a7q,aGu,wi,wj,hkn]
     refine⟨emp,frame _ _ fun j h1 h2=>?_,by rw[ej],by rw[show i0+1+(k+1)=i0+1+k+1 by omega,re];simp,w.set F.length l[i0+1+k],by simp[w1],rfl,?_,?_⟩
     ·simp[h1,h2]
     ·rw[show i0+1+(k+1)=i0+1+k+1 by omega,re];rw[db,ca,ed,fm,List.getElem?_set_self hFw,List.take_set_of_le (ay _),w3];rfl
     rw[List.drop_set_of_lt (by omega)];exact azi
    rw[c1]at re;simp only[dj,y0]at re;simp only[go_sem,aa,reduceCtorEq,f0,f1,f5,f6,ev,w2,hid,wj,hkn]
    refine⟨emp,frame _ _ fun j h1 h2=>?_,by rw[ej],by rw[show i0+1+(k+1)=i0+1+k+1 by omega,re],w,w1,rfl,?_,?_⟩
    ·simp[h2]
    ·rw[show i0+1+(k+1)=i0+1+k+1 by omega,re];exact w3
    exact azi
   have he:i0+1+k=l.length:=by omega
   rw[he,dt]at f5 w3;simp only[go_sem,aa,reduceCtorEq,f0,f6,ev,w2,w1,ag,hlt];refine⟨eb,emp,?_⟩;exact⟨fr,f5,w,w1,rfl,w3⟩
  rintro s' ⟨eb,f0,emp,ev,fr,f5,w,w1,w2,w3⟩;have hle:(l.filter fun x=> !p x).length≤l.length:=zg _ _
  have a1y:0<l.length:=by omega
  have hF0:¬(((l.filter fun x=> !p x).length:Int)<0):=by omega
  have hFl:((l.filter fun x=> !p x).length:Int)≤l.length:=by omega
  have hwm:(w.map Bs).length=l.length:=by rw[ag,w1]
  have hlen:((w.map Bs).take (l.filter fun x=> !p x).length++j5 (l.length-(l.filter fun x=> !p x).length) [D.int ab 0,D.int ab 0]++(w.map Bs).drop ((l.filter fun x=> !p x).length+(l.length-(l.filter fun x=> !p x).length))).length=l.length:=by simp[w1];omega
  have a52:((w.map Bs).take (l.filter fun x=> !p x).length++j5 (l.length-(l.filter fun x=> !p x).length) [D.int ab 0,D.int ab 0]++(w.map Bs).drop ((l.filter fun x=> !p x).length+(l.length-(l.filter fun x=> !p x).length))).take (l.filter fun x=> !p x).length=(l.filter fun x=> !p x).map Bs:=by
   rw[oq,ayw (by simp[w1];omega),List.take_take,Nat.min_self,←Gx,w3]
  simp only[go_sem,aa,ae,reduceCtorEq,eb,f0,f5,ev,w2,hwm,bp,aq,hFl,a1y,hle,implies_true,hlen,a52];simp only[Ky,a07,a7r,dj,sv,Ac,go_sem,aa];intro j;simp only[Mem.put,PS.mem,ak];by_cases h1:j=id
  ·subst h1;simp[aBd]
  by_cases h2:j=b+7
  ·subst h2;simp[afc.1,afc.2,h1]
  obtain⟨k1,k2⟩:=fr j h1 h2;simp[h1,k1,k2,emp]
 ·unfold Ky;split
  ·exact Mem.La (by omega) i
  exact ay _
 ·unfold Ky at va⊢;split at va
  ·rename_i h;rw[bm h];exact Mem.Pu i b' va
  exact .inl va
 ·unfold Ky at hi;split at hi
  ·exact hi
  exact hi
 unfold a07 Ky;split
 ·simp[Gu,Mem.put,ck]
 simp[Gu,hv]
end
def Ua(x y:Int):Int:=if x<y then-1 else if y<x then 1 else 0
def Ai{α:Type}(f:α→α→Int):List α→List α→Int
 |[],[]=>0
 |[],_::_=> -1
 |_::_,[]=>1
 |a::r,b::t=>if f a b=0 then Ai f r t else f a b
def U9(a b:Sp):Int:=Ai Ua [a.1,a.2] [b.1,b.2]
def Lz:List Sp→List Sp→Int:=Ai U9
theorem a6h{α:Type}(f:α→α→Int)(l1 l2:List α)(i:Nat)(h1:i<l1.length)(h2:i<l2.length)(h:f l1[i] l2[i]=0):Ai f (l1.drop i) (l2.drop i)=Ai f (l1.drop (i+1)) (l2.drop (i+1)):=by
 rw[jq h1,jq h2];simp only[Ai,h,dj]
theorem agf{α:Type}(f:α→α→Int)(l1 l2:List α)(i:Nat)(h1:i<l1.length)(h2:i<l2.length)(h:f l1[i] l2[i]≠0):Ai f (l1.drop i) (l2.drop i)=f l1[i] l2[i]:=by
 rw[jq h1,jq h2];simp only[Ai,al h]
theorem agh{α:Type}(f:α→α→Int)(l1 l2:List α)(i:Nat)(h1:i<l1.length)(h2:l2.length≤i):Ai f (l1.drop i) (l2.drop i)=1:=by
 rw[jq h1,Sk h2];rfl
theorem aa5{α:Type}(f:α→α→Int)(l1 l2:List α):Ai f (l1.drop l1.length) (l2.drop l1.length)=if l1.length<l2.length then-1 else 0:=by
 rw[am2];split
 ·rename_i h;rw[jq h];rfl
 rename_i h;rw[Sk (by omega)];rfl
section
variable{P:Program}(A:Pr3 P)
theorem akt(n:Int):iq P A.xl [.int ab n] (.bool false):=by
 refine du A.mo A.Yl (by simp) ?_;show ko P Jh (lg _ _) _;simp only[Jh,go_sem,aa,reduceCtorEq,bne_self_eq_false]
theorem ahm(x y:Int):iq P A.xt [.int ab x,.int ab y] (.int ab (Ua x y)):=by
 refine du A.mo A.Vh (by simp) ?_;show ko P (Gr A.xl) (lg _ _) _;simp only[Gr,go_sem,aa,de,reduceCtorEq];refine ff (akt A x) ?_;simp only[go_sem,aa,de];refine ff (akt A y) ?_;unfold Ua;by_cases h1:x<y
 ·simp only[go_sem,aa,de,reduceCtorEq,h1]
 by_cases h2:y<x
 ·simp only[go_sem,aa,de,reduceCtorEq,h1,h2]
 simp only[go_sem,aa,de,reduceCtorEq,h1,h2]
theorem ae5(l1 l2:List Int)(hl1:l1.length≤2^50)(hl2:l2.length≤2^50):iq P A.sr [.ft 1 (l1.map ve),.ft 1 (l2.map ve)] (.int ab (Ai Ua l1 l2)):=by
 refine du A.mo A.Rt (by simp) ?_;show ko P (E9 A.xt) (lg _ _) _;simp only[E9,go_sem,aa,de,reduceCtorEq];refine r9 (fun s'=>s'.tmp 0= .d (.ft 1 (l1.map ve))∧s'.tmp 1= .d (.ft 1 (l2.map ve))∧Ai Ua l1 l2=if l1.length<l2.length then-1 else 0) ?_ ?_
 ·refine fh l1.length (fun i s'=>s'.tmp 0= .d (.ft 1 (l1.map ve))∧s'.tmp 1= .d (.ft 1 (l2.map ve))∧s'.tmp 9= .d (.ft 1 (l1.map ve))∧s'.tmp 10= .d (.int ab l1.length)∧s'.tmp 11= .d (.int ab i)∧
   Ai Ua l1 l2=Ai Ua (l1.drop i) (l2.drop i)) ?_ ?_
  ·simp only[go_sem,aa,reduceCtorEq,ag]
  rintro i s' hi ⟨f0,f1,f9,f10,f11,hI⟩;by_cases hlt:(i:Int)<l1.length
  ·have df:i<l1.length:=by omega
   have wi:=cu ((i:Int)+1) (by omega) (by omega)
   have g1:(l1.map ve)[i]? =some [.int ab l1[i]]:=by simp[df,ve]
   by_cases h2:(l2.length:Int)≤i
   ·rw[agh Ua l1 l2 i df (by omega)]at hI;simp only[go_sem,aa,de,reduceCtorEq,f1,f9,f10,f11,hlt,g1,bp,aq,ag,h2,hI]
   have h2':i<l2.length:=by omega
   have g2:(l2.map ve)[i]? =some [.int ab l2[i]]:=by simp[h2',ve]
   simp only[go_sem,aa,de,reduceCtorEq,f1,f9,f10,f11,hlt,g1,g2,bp,aq,ag,h2];refine il (ahm A _ _) ?_;by_cases h3:Ua l1[i] l2[i]=0
   ·rw[a6h Ua l1 l2 i df h2' h3]at hI;simp only[go_sem,aa,jk,de,reduceCtorEq,f0,f1,f9,f10,f11,h3,wi,df];exact⟨by simp,hI⟩
   rw[agf Ua l1 l2 i df h2' h3]at hI
   have h3':(Ua l1[i] l2[i] !=0)=true:=by simpa using h3
   simp only[go_sem,aa,de,reduceCtorEq,h3',hI]
  have:i=l1.length:=by omega
  subst this;rw[aa5]at hI;simp only[go_sem,aa,de,reduceCtorEq,f0,f1,f10,f11,hlt];exact hI
 rintro s' ⟨f0,f1,hI⟩;by_cases h:(l1.length:Int)<l2.length
 ·have h':l1.length<l2.length:=by omega
  simp only[go_sem,aa,de,reduceCtorEq,f0,f1,ag,h,hI,h']
 have h':¬l1.length<l2.length:=by omega
 simp only[go_sem,aa,de,reduceCtorEq,f0,f1,ag,h,hI,h']
theorem avz(a b:Sp):iq P A.sg [ya a,ya b] (.int ab (U9 a b)):=by
 refine du A.mo A.a89 (by simp) ?_;show ko P (Pk A.sr) (lg _ _) _;simp only[Pk,ya,go_sem,aa,ey,ae];refine qw (ds:=[.ft 1 ([a.1,a.2].map ve),.ft 1 ([b.1,b.2].map ve)]) ?_ (ae5 A _ _ (by simp) (by simp)) rfl ?_
 ·simp only[go_sem,aa,ey,ae,nj,rb,ve,Nat.reduceLT]
 simp only[go_sem,aa];rfl
theorem Vp(l1 l2:List Sp)(hl1:l1.length≤2^50)(hl2:l2.length≤2^50):iq P A.j3 [vz l1,vz l2,.nu A.sg []] (.int ab (Lz l1 l2)):=by
 refine du A.mo A.Ih (by simp) ?_;show ko P (v8) (lg _ _) _;simp only[v8,vz,Lz,go_sem,aa,de,reduceCtorEq];refine r9 (fun s'=>s'.tmp 0= .d (.ft 2 (l1.map Bs))∧s'.tmp 1= .d (.ft 2 (l2.map Bs))∧Ai U9 l1 l2=if l1.length<l2.length then-1 else 0) ?_ ?_
 ·refine fh l1.length (fun i s'=>s'.base=0∧s'.tmp 0= .d (.ft 2 (l1.map Bs))∧s'.tmp 1= .d (.ft 2 (l2.map Bs))∧s'.tmp 2= .d (.nu A.sg [])∧s'.tmp 11= .d (.ft 2 (l1.map Bs))∧s'.tmp 12= .d (.int ab l1.length)∧s'.tmp 13= .d (.int ab i)∧
   Ai U9 l1 l2=Ai U9 (l1.drop i) (l2.drop i)) ?_ ?_
  ·simp only[go_sem,aa,reduceCtorEq,ag]
  rintro i s' hi ⟨eb,f0,f1,f2,f11,f12,f13,hI⟩;by_cases hlt:(i:Int)<l1.length
  ·have df:i<l1.length:=by omega
   have wi:=cu ((i:Int)+1) (by omega) (by omega);have g1:=D8 df
   have e1:l1.getD i (0,0)=l1[i]:=by simp[cd,df]
   rw[e1]at g1;by_cases h2:(l2.length:Int)≤i
   ·rw[agh U9 l1 l2 i df (by omega)]at hI;simp only[go_sem,aa,de,ae,reduceCtorEq,eb,f1,f11,f12,f13,hlt,g1,bp,aq,ag,h2,hI]
   have h2':i<l2.length:=by omega
   have g2:=D8 h2'
   have e2:l2.getD i (0,0)=l2[i]:=by simp[cd,h2']
   rw[e2]at g2;simp only[go_sem,aa,de,ae,reduceCtorEq,eb,f1,f2,f11,f12,f13,hlt,g1,g2,bp,aq,ag,h2];refine O8 (avz A _ _) ?_;by_cases h3:U9 l1[i] l2[i]=0
   ·rw[a6h U9 l1 l2 i df h2' h3]at hI;simp only[go_sem,aa,jk,de,reduceCtorEq,f0,f1,f2,f11,f12,f13,h3,wi,df];exact⟨by simp,hI⟩
   rw[agf U9 l1 l2 i df h2' h3]at hI
   have h3':(U9 l1[i] l2[i] !=0)=true:=by simpa using h3
   simp only[go_sem,aa,de,reduceCtorEq,h3',hI]
  have:i=l1.length:=by omega
  subst this;rw[aa5]at hI;simp only[go_sem,aa,de,reduceCtorEq,f0,f1,f12,f13,hlt];exact hI
 rintro s' ⟨f0,f1,hI⟩;by_cases h:(l1.length:Int)<l2.length
 ·have h':l1.length<l2.length:=by omega
  simp only[go_sem,aa,de,reduceCtorEq,f0,f1,ag,h,hI,h']
 have h':¬l1.length<l2.length:=by omega
 simp only[go_sem,aa,de,reduceCtorEq,f0,f1,ag,h,hI,h']
end
section
variable{P:Program}(A:Pr3 P)
theorem aAd(n:Nat)(hn:0<n)(hb:n≤2^30)(m:Mem)(b:Nat):qz P A.qh m [.d .cq,.d (.int ab n)] (m.put (b+22) (m.av (b+22)+2) (.arr 2 [])) (.ref (b+22) (m.av (b+22)+2) 0):=by
 refine mq A.mo A.O4 (by simp) b (fun c=>?_) (Mem.La (by omega)) Mem.Pu (fun i es hi=> .inl hi) (by simp[Gu,Mem.put,ck]);show ko P (Bf) (Bq m [.tmp 4] _ _) _
 have h0:¬((n:Int)<0):=by omega
 have h1:(0:Int)<n:=by omega
 have w0:=cu ((n:Int)-0) (by omega) (by omega);have w1:=cu (0:Int) (by omega) (by omega)
 have hz:(n:Int)-0=n:=by omega
 rw[hz]at w0
 have hbb:(n:Int)*16≤2^47:=by omega
 have hz2:(n:Int)*((16:Nat):Int)≤2^47:=hbb;simp only[Bf,enter,go_sem,aa,ae,reduceCtorEq,h0,h1,w0,w1,Int.sub_zero,hbb,bp,aIq,aq,sv,Ac,qj];intro j;simp only[Mem.put,PS.mem,ak];by_cases h:j=b+22
 ·subst h;simp
 simp[h]
theorem Yo{ls:List (List Sp)}{i:Nat}(h:i<ls.length):(ls.take (i+1)).flatten=(ls.take i).flatten++ls[i]:=by
 rw[fm,aJd];simp[h]
theorem aqs(ls:List (List Sp))(hne:ls.flatten≠[])(h1:ls.length≤2^30)(h2:ls.flatten.length≤2^30):iq P A.pa [lj ls] (vz ls.flatten):=by
 refine du A.mo A.My (by simp) ?_;show ko P (zu A.qh) (lg _ _) _;have a1y:0<ls.flatten.length:=a1i.2 hne
 have tk:∀i,(ls.take i).flatten.length≤ls.flatten.length:=fun i=>by
  have:=congrArg a3h (congrArg List.flatten (Gv i ls));rw[aJd,db]at this;omega
 simp only[zu,lj,vz,go_sem,aa,reduceCtorEq];refine r9 (fun s'=>s'.base=0∧s'.tmp 0= .d (.ft 1 (ls.map fun l=>[vz l]))∧s'.tmp 3= .d (.int ab ls.flatten.length)) ?_ ?_
 ·refine fh ls.length (fun i s'=>s'.base=0∧s'.tmp 0= .d (.ft 1 (ls.map fun l=>[vz l]))∧s'.tmp 3= .d (.int ab (ls.take i).flatten.length)∧s'.tmp 9= .d (.ft 1 (ls.map fun l=>[vz l]))∧s'.tmp 10= .d (.int ab ls.length)∧s'.tmp 11= .d (.int ab i)) ?_ ?_
  ·simp only[go_sem,aa,reduceCtorEq,ag];rfl
  rintro i s' hi ⟨eb,f0,f3,f9,f10,f11⟩;by_cases hlt:(i:Int)<ls.length
  ·have df:i<ls.length:=by omega
   have wi:=cu ((i:Int)+1) (by omega) (by omega);have hg:=Fc df;have hft:=Yo df;have hl:=tk (i+1);rw[hft,db]at hl;have ws:=cu (((ls.take i).flatten.length:Int)+ls[i].length) (by omega) (by omega)
   have hn:¬(((ls.take i).flatten.length:Int)+ls[i].length<0):=by omega
   simp only[go_sem,aa,reduceCtorEq,eb,f0,f3,f9,f10,f11,hlt,hg,bp,aq,ag,ws,hn,wi,df,hft,db];simp
  have:i=ls.length:=by omega
  subst this;rw[dt]at f3;simp only[go_sem,aa,reduceCtorEq,eb,f0,f3,f10,f11,hlt]
 rintro s' ⟨eb,f0,f3⟩;simp only[go_sem,eb,f3];refine jr (aAd A ls.flatten.length a1y h2 _ 1000) ?_;simp only[go_sem,aa,ae,reduceCtorEq,PS.j0,f0];refine r9 (fun s'=>s'.base=0∧s'.tmp 6= .ref 1022 (s'.av 1022) ls.flatten.length∧s'.da 1022=some (.arr 2 (ls.flatten.map Bs))) ?_ ?_
 ·refine fh ls.length (fun i s'=>s'.base=0∧s'.tmp 6= .ref 1022 (s'.av 1022) (ls.take i).flatten.length∧s'.da 1022=some (.arr 2 ((ls.take i).flatten.map Bs))∧s'.tmp 25= .d (.ft 1 (ls.map fun l=>[vz l]))∧s'.tmp 26= .d (.int ab ls.length)∧s'.tmp 27= .d (.int ab i)) ?_ ?_
  ·simp only[go_sem,aa,ag,Mem.put,PS.mem]
  clear eb f0 f3;rintro i s' hi ⟨eb,f6,b6,f25,f26,f27⟩;by_cases hlt:(i:Int)<ls.length
  ·have df:i<ls.length:=by omega
   have wi:=cu ((i:Int)+1) (by omega) (by omega);have hg:=Fc df;have hft:=Yo df;have hl:=tk (i+1);rw[hft,db]at hl
   have Ae:((ls[i].map Bs).all fun e=>e.all D.one)=true:=by
    rw[cz];intro e he;obtain⟨p,_,rfl⟩:=iw.1 he;rfl
   have B6:((ls.take i).flatten.length+ls[i].length)*16≤2^47:=by omega
   simp only[go_sem,aa,reduceCtorEq,Lo,qm,eb,f6,b6,f25,f26,f27,hlt,hg,bp,aq,ag,Ae,B6,wi,df,hft,db,fu];simp
  have:i=ls.length:=by omega
  subst this;rw[dt]at f6 b6;simp only[go_sem,aa,reduceCtorEq,eb,f6,b6,f26,f27,hlt]
 clear eb f0 f3;rintro s' ⟨eb,f6,b6⟩;simp only[go_sem,aa,eb,f6,b6,ag]
end
def Uu(O I:Adj)(s:Sp):Bool:=
 match By s O with
 |some [b]=>match By s I with
  |some (a::_)=>sgn (fb (kz s a) (kz b s)) !=0
  |_=>true
 |_=>true
theorem a4n(k:Sp)(L:Adj):Hc (.row [.int,.int]) (.agg [.int ab k.1,.int ab k.2]) ((L.map fun p=>(ya p.1,vz p.2)).map fun e=>(e.1,C.d e.2))=some ((By k L).map fun l=>C.d (vz l)):=by
 induction L with
 |nil=>rfl
 |cons x r ih=>
  obtain⟨a,l⟩:=x;simp only[gf,By];have:=a4p k a (C.d (vz l)) ((r.map fun p=>(ya p.1,vz p.2)).map fun e=>(e.1,C.d e.2));simp only[ya]at this ih⊢;rw[this];split
  ·rfl
  exact ih
theorem X5{k:Sp}:∀{L:Adj} {l:List Sp},By k L=some l→∃a,(a,l)∈L:=by
 intro L
 induction L with
 |nil=>intro l h;cases h
 |cons x r ih=>
  intro l h;obtain⟨a,l'⟩:=x;simp only[By]at h;split at h
  ·injection h with h;subst h;exact⟨a,by simp⟩
  obtain⟨b,hb⟩:=ih h;exact⟨b,by simp[hb]⟩
def Ux(b fr Du s:Sp):Bool:=
 (decide (yb (kz s b) fr<0)&& !decide (yb (kz Du b) fr<0))||(decide (yb (kz s b) fr<0)==decide (yb (kz Du b) fr<0)&&decide (0<yb (kz s b) (kz Du b)))
def uj(b fr Du s:Sp):Sp:=if Ux b fr Du s then s else Du
def a4j(l:List Sp)(a b:Sp):Sp:=
 match l with
 |[]=>(0,0)
 |h::r=>r.foldl (uj b (kz a b)) h
section
variable{P:Program}{K:PS→Prop}{s:PS}{r:List RI}{d:Option Nat}
theorem a18{g:Nat}{iy:List D}{own:Bool}{a x:D}(h2:iq P g (a::iy) x)(hx:x.flat=true)(h4:l5 P r (s.put d (.d x)) K):F9 P g [.d a] iy own d s (Ab P r K):=⟨[a],x,rfl,h2.toC,.inl hx,h4⟩
end
section
variable{P:Program}(A:Pr3 P)
theorem aqg{es:List Ed}{O I:Adj}(s:Sp)(hs:SmL s)(hO:∀p∈O,p.2.length≤2^30∧∀q∈p.2,SmL q)(hI:∀p∈I,∀q∈p.2,SmL q)(h:∃a l,By s I=some (a::l)):iq P A.vp [.agg [S0 O,S0 I],ya s] (.bool (Uu O I s)):=by
 refine du A.mo A.Ts (by simp) ?_;show ko P (Fq A.Dp) (lg _ _) _;obtain⟨a,li,hi⟩:=h;have l1:=a4n s O;have l2:=a4n s I;rw[hi]at l2;rw[show ya s= .agg [.int ab s.1,.int ab s.2]from rfl];simp only[Fq,S0,go_sem,aa,ae,ah,PS.ents,ez,Cj,l1];unfold Uu;rw[hi]
 have other:∀l:List Sp,l.length≠1→(match l with|[b]=>sgn (fb (kz s a) (kz b s)) !=0|_=>true)=true:=by
  intro l hl
  match l with
  |[]=>rfl
  |[b]=>simp at hl
  |_::_::_=>rfl
 cases ho:By s O with
 |none=>
  simp only[go_sem,aa,reduceCtorEq,show((0:Int) !=1)=true from rfl]
 |some lo=>
  obtain⟨k,hk⟩:=X5 ho;obtain⟨hl,hm⟩:=hO _ hk
  match lo,ho,hl,hm with
  |[b],ho,hl,hm=>
   have hb:=hm b (by simp);obtain⟨k2,hk2⟩:=X5 hi;have ha:=hI _ hk2 a (by simp);have ht:=aA4 A.toPr ha hs hb;simp only[ya]at ht;have e1:vz [b]= .ft 2 [[.int ab b.1,.int ab b.2]]:=rfl;have e2:vz (a::li)= .ft 2 ([.int ab a.1,.int ab a.2]::li.map Bs):=rfl;simp only[go_sem,aa,ae,ah,reduceCtorEq,ho,e1,e2,bne_self_eq_false,ez,Cj,l1,l2];refine Gh ht ?_;simp only[go_sem,aa,reduceCtorEq]
  |[],ho,hl,hm=>
   have e1:vz []= .ft 2 []:=rfl;have h01:(((0:Nat):Int) !=1)=true:=rfl;simp only[go_sem,aa,jk,reduceCtorEq,e1]
  |x::y::z,ho,hl,hm=>
   have hn:(((z.length+1+1:Nat):Int) !=1)=true:=by simp;omega
   have e1:vz (x::y::z)= .ft 2 (Bs x::Bs y::z.map Bs):=rfl;simp only[go_sem,aa,reduceCtorEq,e1,ag,hn]
theorem aqj{O I:Adj}(s:Sp)(hs:SmL s)(hO:∀p∈O,p.2.length≤2^30∧∀q∈p.2,SmL q)(hI:∀p∈I,∀q∈p.2,SmL q)(h:∃a l,By s I=some (a::l)):iq P A.uc [.agg (Bs s),.te [S0 O,S0 I] 0] (.bool (!Uu O I s)):=by
 refine du A.mo A.Sy (by simp) ?_;show ko P (F7 A.vp) (lg _ _) _;have hc:=aqg A (es:=[]) s hs hO hI h;simp only[ya]at hc;simp only[F7,Bs,go_sem,aa,ae];refine il hc ?_;simp only[go_sem,aa]
theorem akp(s b fr:Sp)(hs:SmL s)(hb:SmL b)(hf:SmP fr):iq P A.qp [ya s,.te (Bs b) 0,.te (Bs fr) 0] (.bool (decide (yb (kz s b) fr<0))):=by
 refine du A.mo A.Tq (by simp) ?_;show ko P (Fp A.fg A.sj) (lg _ _) _;have h1:=H6 A.toPr hs.p hb.p;have h2:=akw A.toPr (hs.sub hb) hf;simp only[ya]at h1 h2;simp only[Fp,ya,Bs,go_sem,aa,ae];refine il h1 ?_;simp only[go_sem,aa,ae];refine il h2 ?_;simp only[go_sem,aa,reduceCtorEq]
end
section
variable{P:Program}(A:Pr3 P)
def a8l(f:Nat)(a b:Sp)(h:Sp)(r:List Sp)(k:Nat)(s':PS):Prop:=
 s'.base=0∧s'.tmp 5= .ic 5 (s'.av 5) 0∧s'.da 5=some (.loc [.d (.int ab b.1),.d (.int ab b.2)])∧s'.tmp 6= .ic 6 (s'.av 6) 0∧s'.da 6=some (.loc [.d (.int ab 0),.d (.int ab 0)])∧
 s'.tmp 10= .nu f [(5,s'.av 5),(9,s'.av 9)]∧s'.da 9=some (.loc [.d (.int ab (a.1-b.1)),.d (.int ab (a.2-b.2))])∧
 s'.tmp 8= .ic 8 (s'.av 8) 0∧s'.da 8=some (.loc [.d (.int ab ((r.take k).foldl (uj b (kz a b)) h).1),.d (.int ab ((r.take k).foldl (uj b (kz a b)) h).2)])
theorem abm{a b h:Sp}{r:List Sp}(hh:SmL h)(hr:∀q∈r,SmL q):SmL (r.foldl (uj b (kz a b)) h):=by
 induction r generalizing h with
 |nil=>exact hh
 |cons x t ih=>
  rw[qe];refine ih ?_ fun q hq=>hr q (by simp[hq]);unfold uj;split
  ·exact hr x (by simp)
  exact hh
theorem a7n{a b h:Sp}{r:List Sp}{k:Nat}(hk:k<r.length):(r.take (k+1)).foldl (uj b (kz a b)) h=uj b (kz a b) ((r.take k).foldl (uj b (kz a b)) h) (r.getD k (0,0)):=by
 rw[fm,mc];simp[hk,cd]
theorem aA5{O I:Adj}(a b h:Sp)(r:List Sp)(ha:SmL a)(hb:SmL b)(hh:SmL h)(hr:∀q∈r,SmL q)(hl:r.length≤2^30)(ho:By b O=some (h::r)):iq P A.yp [.agg [S0 O,S0 I],ya a,ya b] (ya (a4j (h::r) a b)):=by
 refine du A.mo A.Wt (by simp) ?_;show ko P (Hu A.fg A.qp A.sj) (lg _ _) _;have l1:=a4n b O;rw[ho]at l1;have e1:vz (h::r)= .ft 2 ([.int ab h.1,.int ab h.2]::r.map Bs):=rfl;have hm:=H6 A.toPr ha.p hb.p;simp only[ya,kz]at hm;rw[show ya a= .agg [.int ab a.1,.int ab a.2]from rfl,show ya b= .agg [.int ab b.1,.int ab b.2]from rfl];simp only[Hu,S0,go_sem,aa,ae,ah,ez,Cj,l1,e1];refine il hm ?_
 have hlen:(1:Nat)≤r.length+1:=by omega
 have htk:(r.map Bs).take r.length=r.map Bs:=by rw[←ag (f:=Bs)];exact dt
 simp only[go_sem,aa,fp,dv,ae,hlen,ag,htk];have mh:=ha.sub hb;refine r9 (fun s'=>a8l A.qp a b h r r.length s') ?_ ?_
 ·refine fh r.length (fun k s'=>a8l A.qp a b h r k s'∧s'.tmp 27= .d (.ft 2 (r.map Bs))∧s'.tmp 28= .d (.int ab r.length)∧s'.tmp 29= .d (.int ab k)) ?_ ?_
  ·simp only[a8l,go_sem,aa,av5]
  rintro k s' hk ⟨⟨eb,f5,b5,f6,b6,f10,b9,f8,b8⟩,f27,f28,f29⟩;by_cases hlt:(k:Int)<r.length
  ·have df:k<r.length:=by omega
   have wk:=cu ((k:Int)+1) (by omega) (by omega);have hg:=D8 df
   have hs:SmL (r.getD k (0,0)):=by
    have e:r.getD k (0,0)=r[k]:=by simp[cd,df]
    rw[e];exact hr _ (cy _)
   have asu:=abm (a:=a) (b:=b) hh (r:=r.take k) fun q hq=>hr q (Ix hq);have re:=a7n (a:=a) (b:=b) (h:=h) df
   generalize hB:(r.take k).foldl (uj b (kz a b)) h=Du at*
   generalize hS:r.getD k (0,0)=s at*
   have n1:=akp A s b (kz a b) hs hb mh;have n2:=akp A Du b (kz a b) asu hb mh;simp only[ya,Bs,kz]at n1 n2;simp only[go_sem,aa,ae,reduceCtorEq,eb,b5,f10,b9,f27,f28,f29,hlt,hg,bp,aq,nj,rb];refine a18 n1 rfl ?_;simp only[go_sem,aa,ae,b5,f10,b9,f8,b8,nj,rb];refine a18 n2 rfl ?_;have m1:=H6 A.toPr hs.p hb.p;have m2:=H6 A.toPr asu.p hb.p;have an:=akw A.toPr (hs.sub hb) (asu.sub hb);simp only[ya,kz]at m1 m2 an;have b1:((true:Bool)==true)=true:=rfl;have b2:((false:Bool)==false)=true:=rfl;have b3:((false:Bool)==true)=false:=rfl;have b4:((true:Bool)==false)=false:=rfl
   have a1x:uj b (kz a b) Du s=if(decide (yb (s.1-b.1,s.2-b.2) (a.1-b.1,a.2-b.2)<0)&& !decide (yb (Du.1-b.1,Du.2-b.2) (a.1-b.1,a.2-b.2)<0))||
     (decide (yb (s.1-b.1,s.2-b.2) (a.1-b.1,a.2-b.2)<0)==decide (yb (Du.1-b.1,Du.2-b.2) (a.1-b.1,a.2-b.2)<0)&&decide (0<yb (s.1-b.1,s.2-b.2) (Du.1-b.1,Du.2-b.2)))then s else Du:=rfl
   by_cases hx:yb (s.1-b.1,s.2-b.2) (a.1-b.1,a.2-b.2)<0<;>by_cases hy:yb (Du.1-b.1,Du.2-b.2) (a.1-b.1,a.2-b.2)<0
   ·simp only[go_sem,aa,ae,f5,b5,hx,hy,b1];refine il m1 ?_;simp only[go_sem,aa,ae,f5,b5,f8,b8];refine il m2 ?_;simp only[go_sem,aa];refine il an ?_;by_cases h0:0<yb (s.1-b.1,s.2-b.2) (Du.1-b.1,Du.2-b.2)
    ·simp only[hx,hy,h0,decide_true,b1,aJ8,aF3,qo,aKb,dj]at a1x;simp only[a8l,go_sem,aa,ae,reduceCtorEq,f5,b5,f6,b6,f10,b9,f8,b8,f27,f28,f29,h0,wk,df,re,a1x];simp
    simp only[hx,hy,h0,decide_true,decide_false,qo,Vj,aF3,qo,fk,ee]at a1x;simp only[a8l,go_sem,aa,reduceCtorEq,f5,b5,f6,b6,f10,b9,f8,b8,f27,f28,f29,h0,wk,df,re,a1x];simp
   ·simp only[hx,hy,decide_true,decide_false,b4,Li,Gy,Ho,dj]at a1x;simp only[a8l,go_sem,aa,ae,reduceCtorEq,f5,b5,f6,b6,f10,b9,f8,b8,f27,f28,f29,hx,hy,wk,df,re,a1x];simp
   ·simp only[hx,hy,decide_true,decide_false,b3,aF3,dz,Vj,fk,ee]at a1x;simp only[a8l,go_sem,aa,reduceCtorEq,f5,b5,f6,b6,f10,b9,f8,b8,f27,f28,f29,hx,hy,b3,wk,df,re,a1x];simp
   simp only[go_sem,aa,ae,f5,b5,hx,hy,b2];refine il m1 ?_;simp only[go_sem,aa,ae,f5,b5,f8,b8];refine il m2 ?_;simp only[go_sem,aa];refine il an ?_;by_cases h0:0<yb (s.1-b.1,s.2-b.2) (Du.1-b.1,Du.2-b.2)
   ·simp only[hx,hy,h0,decide_true,decide_false,b2,Gy,aJ8,Li,aKb,dj]at a1x;simp only[a8l,go_sem,aa,ae,reduceCtorEq,f5,b5,f6,b6,f10,b9,f8,b8,f27,f28,f29,h0,wk,df,re,a1x];simp
   simp only[hx,hy,h0,decide_false,qo,Vj,Li,dz,qo,fk,ee]at a1x;simp only[a8l,go_sem,aa,reduceCtorEq,f5,b5,f6,b6,f10,b9,f8,b8,f27,f28,f29,h0,wk,df,re,a1x];simp
  have:k=r.length:=by omega
  subst this;simp only[a8l,go_sem,aa,reduceCtorEq,eb,f5,b5,f6,b6,f10,b9,f8,b8,f28,f29,hlt]
 rintro s' ⟨eb,f5,b5,f6,b6,f10,b9,f8,b8⟩;rw[dt]at b8;simp only[go_sem,aa,ae,eb,f6,b6,f8,b8,a4j];rfl
end
def a7h(l:List Sp)(i:Nat):List Sp:=l.drop i++l.take i
def Xr(l Du:List Sp)(i:Nat):List Sp:=if Lz (a7h l i) Du<0 then a7h l i else Du
def Lg(l:List Sp)(k:Nat):List Sp:=(dn k).foldl (Xr l) l
def Nl(O I:Adj)(l:List Sp):List Sp:=l.filter fun s=> !!Uu O I s
def Jy(O I:Adj)(l:List Sp):List Sp:=Lg (Nl O I l) (Nl O I l).length
theorem Sa(l:List Sp)(k:Nat):Lg l (k+1)=Xr l (Lg l k) k:=by
 unfold Lg;rw[List.range_succ,mc];rfl
theorem M0(l:List Sp)(k:Nat):(Lg l k).length=l.length:=by
 induction k with
 |zero=>rfl
 |succ k ih=>
  rw[Sa];unfold Xr;split
  ·simp only[a7h,db,uv,dw];omega
  exact ih
theorem aow(m:Mem)(id av:Nat)(l:List Sp)(p:Sp→Bool)(hb:m.da id=some (.arr 2 (l.map Bs)))(hv:m.av id=av):
  ∃v,(Ky m id av l p).da id=some (.arr 2 ((l.filter fun x=> !p x).map Bs))∧(Ky m id av l p).av id=v∧a07 id av l p= .ref id v (l.filter fun x=> !p x).length∧
   (∀j,j≠id→(Ky m id av l p).da j=m.da j∧(Ky m id av l p).av j=m.av j)∧(Ky m id av l p).mp=m.mp:=by
 unfold Ky a07;cases h:l.any p
 ·have hf:l.filter (fun x=> !p x)=l:=filter_none fun x hx=>by simpa using auu.1 h x hx
  simp only[fk,ee,hf];exact⟨av,hb,hv,rfl,fun j _=>⟨trivial,trivial⟩,trivial⟩
 simp only[dj];exact⟨av+1,by simp[Mem.put,ck],by simp[Mem.put,ck],rfl,fun j hj=>by simp[Mem.put,ak,hj],rfl⟩
theorem alm(l:List Sp):∀e∈l.map Bs,e.all D.one=true:=by
 intro e he;obtain⟨p,_,rfl⟩:=iw.1 he;rfl
section
variable{P:Program}(A:Pr3 P)
theorem aot{K:PS→Prop}{s:PS}{r:List RI}{d:Option Nat}(l:List Sp)(hl:l.length≤2^30){id av b q qv:Nat}{g:Nat}{n1 n2:D}{p:Sp→Bool}(hb:s.da id=some (.arr 2 (l.map Bs)))(hv:s.av id=av)
  (afc:s.da (b+7)=none∧s.mp (b+7)=none)(hid:id≠b+7)(aBd:s.mp id=none)(hq:s.da q=some (.loc [.d n1,.d n2]))(hqv:s.av q=qv)(hq1:q≠id)(hq2:q≠b+7)
  (hp:∀x∈l,iq P g [.agg (Bs x),.te [n1,n2] 0] (.bool (p x)))
  (hK:∀(m':Mem) (v:Nat),m'.da id=some (.arr 2 ((l.filter fun x=> !p x).map Bs))→m'.av id=v→(∀j,j≠id→m'.da j=s.da j∧m'.av j=s.av j)→m'.mp=s.mp→l5 P r ((s.j0 m').put d (.ref id v (l.filter fun x=> !p x).length)) K):
  ag5 P A.ll [.ref id av l.length,.nu g [(q,qv)]] d s (Ab P r K):=by
 obtain⟨v,q1,q2,q3,q4,q5⟩:=aow s.mem id av l p hb hv;refine jr (ab2 A l hl hb hv afc hid aBd hq hqv hq1 hq2 hp) ?_;rw[q3];exact hK _ v q1 q2 q4 q5
theorem aku{O I:Adj}(l:List Sp)(hne:l≠[])(hl:l.length≤2^20)(hs:∀s∈l,SmL s∧∃a li,By s I=some (a::li))(hO:∀p∈O,p.2.length≤2^30∧∀q∈p.2,SmL q)(hI:∀p∈I,∀q∈p.2,SmL q):
  iq P A.nq [.agg [S0 O,S0 I],vz l] (vz (Jy O I l)):=by
 refine du A.mo A.Ve (by simp) ?_;show ko P (Gn A.fl A.uc A.ll A.pa A.j3 A.sg) (lg _ _) _
 have aGb:l.map Bs≠[]:=by simpa using hne
 simp only[Gn,vz,go_sem,aa,ae];refine jr (aa6 A.mo A.Al aGb (alm l) (by rw[ag];omega) _ 1000) ?_;simp only[go_sem,aa,ae,PS.j0,ag];refine aot A l (by omega) (id:=1005) (b:=2000) (q:=2) (n1:=S0 O) (n2:=S0 I) (p:=fun s=> !Uu O I s) (by simp[Mem.put,PS.mem,ak]) (by simp[Mem.put,PS.mem,ak]) (by simp[Mem.put,PS.mem,ak]) (by omega) (by simp[Mem.put,PS.mem]) (by simp[Mem.put,PS.mem,ak]) (by simp[Mem.put,PS.mem,ak]) (by omega) (by omega) ?_ ?_
 ·intro x hx;obtain⟨h1,h2⟩:=hs x hx;exact aqj A x h1 hO hI h2
 intro m' v q1 q2 q3 q4;simp only[go_sem,aa,PS.j0];refine T7 [1005] ?_;simp only[alf,go_sem,aa,V.uu,C.uu,dq,kh,or_false,q1,q2,ag];have hFl:(Nl O I l).length≤l.length:=zg _ _;have hFe:(l.filter fun x=> !!Uu O I x)=Nl O I l:=rfl;rw[hFe]at q1⊢;simp only[Jy]
 generalize Nl O I l=F at*
 refine r9 (fun s'=>s'.base=0∧s'.tmp 5= .d (.ft 2 ((Lg F F.length).map Bs))) ?_ ?_
 ·refine fh F.length (fun i s'=>s'.base=0∧s'.tmp 1= .d (.ft 2 (F.map Bs))∧s'.tmp 5= .d (.ft 2 ((Lg F i).map Bs))∧s'.tmp 14= .d (.int ab F.length)∧s'.tmp 15= .d (.int ab i)) ?_ ?_
  ·simp only[go_sem,aa,q1,q2,ag];rfl
  rintro i s' hi ⟨eb,f1,f5,f14,f15⟩;by_cases hlt:(i:Int)<F.length
  ·have df:i<F.length:=by omega
   have wi:=cu ((i:Int)+1) (by omega) (by omega)
   have hi1:i≤(F.map Bs).length:=by rw[ag];omega
   have hfl:[F.drop i,F.take i].flatten=a7h F i:=by simp[a7h]
   have hrl:(a7h F i).length=F.length:=by simp only[a7h,db,uv,dw];omega
   have hcc:=aqs A [F.drop i,F.take i] (by rw[hfl];intro h;rw[h]at hrl;simp at hrl;omega) (by simp) (by rw[hfl,hrl];omega);have hcm:=Vp A (a7h F i) (Lg F i) (by rw[hrl];omega) (by rw[M0];omega);rw[hfl]at hcc;have htk:aL9 (F.map Bs).length (F.map Bs)=F.map Bs:=dt;simp only[lj,vz,gf,ni]at hcc hcm;rw[aus,Gx]at hcc;simp only[go_sem,aa,ae,ah,reduceCtorEq,dh,eb,f1,f14,f15,hlt,bp,aq,hi1,htk,a3g];refine ff hcc ?_;simp only[go_sem,aa,f5];refine Gh hcm ?_;have re:=Sa F i;unfold Xr at re;by_cases hc:Lz (a7h F i) (Lg F i)<0
   ·rw[bm hc]at re;simp only[go_sem,aa,reduceCtorEq,f1,f5,f14,f15,hc,wi,df,re];simp
   rw[al hc]at re;simp only[go_sem,aa,reduceCtorEq,f1,f5,f14,f15,hc,wi,df,re];simp
  have:i=F.length:=by omega
  subst this;simp only[go_sem,aa,reduceCtorEq,eb,f5,f14,f15,hlt]
 rintro s' ⟨eb,f5⟩;simp only[go_sem,eb,f5];refine ff (Ub A.mo A.Al (alm _) (by rw[ag,M0];omega)) ?_;simp only[go_sem,aa]
end
structure ays{α:Type}(f:α→α→Int):Prop where
 sym:∀a b,f a b<0↔0<f b a
 zero:∀a b,f a b=0↔a=b
 trans:∀a b c,f a b<0→f b c<0→f a c<0
theorem a0a:ays Ua where
 sym a b:=by unfold Ua;split<;>split<;>(try split)<;>omega
 zero a b:=by unfold Ua;split<;>(try split)<;>omega
 trans a b c:=by
   unfold Ua;repeat' split
   all_goals omega
theorem S4{α:Type}{f:α→α→Int}(h:ays f):ays (Ai f):=by
 have sym:∀a b,Ai f a b<0↔0<Ai f b a:=by
  intro a
  induction a with
  |nil=>intro b;cases b<;>simp[Ai]
  |cons x r ih=>
   intro b
   cases b with
   |nil=>simp[Ai]
   |cons y t=>
    simp only[Ai];have h1:=h.zero x y;have h2:=h.zero y x;have h3:=h.sym x y;have h4:=h.sym y x;by_cases e:f x y=0
    ·have e':f y x=0:=h2.2 (h1.1 e).symm;rw[bm e,bm e'];exact ih t
    have e':¬f y x=0:=fun q=>e (h1.2 (h2.1 q).symm);rw[al e,al e'];exact h3
 have zero:∀a b,Ai f a b=0↔a=b:=by
  intro a
  induction a with
  |nil=>intro b;cases b<;>simp[Ai]
  |cons x r ih=>
   intro b
   cases b with
   |nil=>simp[Ai]
   |cons y t=>
    simp only[Ai];have h1:=h.zero x y;by_cases e:f x y=0
    ·rw[bm e,ih t,h1.1 e];simp
    rw[al e];constructor
    ·intro q;exact absurd q e
    intro q;injection q with q1 q2;exact absurd (h1.2 q1) e
 refine⟨sym,zero,?_⟩;intro a
 induction a with
 |nil=>
  intro b c h1 h2
  cases c with
  |nil=>cases b with
   |nil=>exact h1
   |cons y t=>simp[Ai]at h2
  |cons z u=>simp[Ai]
 |cons x r ih=>
  intro b c h1 h2
  cases b with
  |nil=>simp[Ai]at h1
  |cons y t=>
   cases c with
   |nil=>simp[Ai]at h2
   |cons z u=>
    simp only[Ai]at h1 h2⊢;by_cases e1:f x y=0
    ·rw[bm e1]at h1;have:=(h.zero x y).1 e1;subst this;by_cases e2:f x z=0
     ·rw[bm e2]at h2⊢;exact ih t u h1 h2
     rw[al e2]at h2⊢;exact h2
    rw[al e1]at h1;by_cases e2:f y z=0
    ·have:=(h.zero y z).1 e2;subst this;rw[al e1];exact h1
    rw[al e2]at h2;have h3:=h.trans x y z h1 h2;rw[al (by omega)];exact h3
theorem Eh:ays Lz:=by
 refine S4 ⟨fun a b=>(S4 a0a).sym _ _,fun a b=>?_,fun a b c=>(S4 a0a).trans _ _ _⟩;rw[show U9 a b=Ai Ua [a.1,a.2] [b.1,b.2]from rfl,(S4 a0a).zero];constructor
 ·intro h;simp at h;exact Q8 h.1 h.2
 rintro rfl;rfl
def alr:List (List Sp)→Prop:=List.Pairwise fun a b=>¬(Lz b a<0)
theorem ahr{a b:List Sp}(h1:¬(Lz b a<0))(h2:¬(Lz a b<0)):a=b:=by
 have:=Eh.sym a b;exact(Eh.zero a b).1 (by have:=Eh.sym b a;omega)
theorem ab4{a b:List (List Sp)}(hp:a.Perm b)(ha:alr a)(hb:alr b):a=b:=
 hp.eq_of_pairwise (fun x y _ _ h1 h2=>ahr h1 h2) ha hb
def v7(ls:List (List Sp)):List (List Sp):=ls.mergeSort fun a b=>decide (¬(Lz b a<0))
theorem Ar(ls:List (List Sp)):(v7 ls).Perm ls:=List.mergeSort_perm _ _
theorem age{a b c:List Sp}(h1:¬(Lz b a<0))(h2:¬(Lz c b<0)):¬(Lz c a<0):=by
 intro h;by_cases e:Lz b a=0
 ·have:=(Eh.zero b a).1 e;subst this;exact h2 h
 have h3:Lz a b<0:=(Eh.sym a b).2 (by omega);exact h2 (Eh.trans c a b h h3)
theorem aap(ls:List (List Sp)):alr (v7 ls):=by
 have h:=List.pairwise_mergeSort (le:=fun a b:List Sp=>decide (¬(Lz b a<0))) (fun a b c h1 h2=>by
  simp only[decide_eq_true_eq]at h1 h2⊢;exact age h1 h2) (fun a b=>by
  have:=Eh.sym a b
  simp only[N2,decide_eq_true_eq];omega) ls
 exact h.imp fun h=>by simpa using h
end Go.PI
namespace Go.PI
open Go Go.RowKit
theorem Bel.grown{w w':World}(h:Bel True w.heap.size w w'):∃q os,w'=V4 (w.drewN q) os:=by
 refine⟨w'.drawn-w.drawn,w'.heap.extract w.heap.size w'.heap.size,?_⟩;have hd:=h.drawn trivial;have hs:=h.size
 have hh:w'.heap=w.heap++w'.heap.extract w.heap.size w'.heap.size:=by
  apply Array.ext_getElem?;intro k;rw[Gw];split
  ·rename_i hk;exact h.block k hk
  rename_i hk;rw[a1p];by_cases hk2:k<w'.heap.size
  ·rw[bm (by omega)]
   congr 1
   omega
  rw[al (by omega),Array.getElem?_eq_none (by omega)]
 unfold V4 World.drewN
 have e2:w.drawn+(w'.drawn-w.drawn)=w'.drawn:=by omega
 cases w'
 simp only[World.mk.injEq]at*
 exact⟨hh,h.tape,e2.symm,h.os,h.output⟩
def El(G:fy):Type:={p:List Sp×Value//gj G (vz p.1) p.2∧p.1.length≤2^20}
instance(G:fy):Inhabited (El G):=⟨⟨([],.slice none 0 0),.V6,by simp⟩⟩
def El.enc{G:fy}(x:El G):Value:=x.1.2
def El.cf{G:fy}(x y:El G):Int:=Lz x.1.1 y.1.1
theorem El.one(G:fy):Go.Proofs.OneCell (El.enc (G:=G)):=fun x=>gj.aem x.2.1 rfl
theorem El.swo(G:fy):Go.Sort.SWO (Go.Proofs.ltOf (El.cf (G:=G)))where
 irrefl x:=by
  have:=(Eh.zero x.1.1 x.1.1).2 rfl;simp[Go.Proofs.ltOf,El.cf,this]
 trans x y z h1 h2:=decide_eq_true (Eh.trans x.1.1 y.1.1 z.1.1 (of_decide_eq_true h1) (of_decide_eq_true h2))
 ntrans x y z h1 h2:=decide_eq_false (age (of_decide_eq_false h2) (of_decide_eq_false h1))
section
variable{P:Program}(A:Pr3 P)
theorem a90(a b:List Sp)(ha:a.length≤2^50)(hb:b.length≤2^50):iq P A.lz [vz a,vz b] (.int ab (Lz a b)):=by
 refine du A.mo A.Ws (by simp) ?_;show ko P (Ht A.j3 A.sg) (lg _ _) _;have h:=Vp A a b ha hb;simp only[vz]at h;simp only[Ht,vz,go_sem,aa,reduceCtorEq];refine Gh h ?_;simp only[go_sem,aa]
end
section
variable{P:Program}{G:fy}{w:World}{da:Nat}{cells:Array Value}{et:TypeId}
theorem akh(hh:w.heap[da]? =some (.cells cells et (0,0))){m:Nat}{dk:Array (El G)}{os:Array Obj}:
  (a1n El.enc w da 0 m dk os).heap=w.heap.modify da (Go.Sort.onCells (Cl El.enc 0 dk))++os∧
  (∀k,k<w.heap.size→k≠da→(a1n El.enc w da 0 m dk os).heap[k]? =w.heap[k]?)∧
  (a1n El.enc w da 0 m dk os).heap[da]? =some (.cells (Cl El.enc 0 dk cells) et (0,0)):=by
 have hb:da<w.heap.size:=(ig.1 hh).1;have e:(a1n El.enc w da 0 m dk os).heap=w.heap.modify da (Go.Sort.onCells (Cl El.enc 0 dk))++os:=rfl;refine⟨e,fun k hk hne=>?_,?_⟩
 ·rw[e,o7 (by simpa using hk),D4,al (fun q=>hne q.symm)]
 rw[e,o7 (by simpa using hb),D4,bm rfl,hh];rfl
theorem apt(hG:GOk G w)(hh:w.heap[da]? =some (.cells cells et (0,0)))(Bc:∀o,G.cv da o=none){m:Nat}{dk:Array (El G)}{os:Array Obj}:GOk G (a1n El.enc w da 0 m dk os)where
 cv b o v hv:=by
  have hlt:=hG.lt hv
  have hne:b≠da:=fun q=>by rw[q,Bc]at hv;cases hv
  have:=hG.cv b o v hv;unfold aKc at this⊢;rw[(akh hh).2.1 b hlt hne];exact this
 mv b es hv:=by
  obtain⟨ents,clock,h1,h2⟩:=hG.mv b es hv;have hlt:=hG.ltm hv
  have hne:b≠da:=fun q=>by rw[q,hh]at h1;cases h1
  exact⟨ents,clock,by rw[(akh hh).2.1 b hlt hne];exact h1,h2⟩
end
end Go.PI
