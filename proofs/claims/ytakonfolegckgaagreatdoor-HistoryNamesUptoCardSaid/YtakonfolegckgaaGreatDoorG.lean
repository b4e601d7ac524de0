/- A part of the proof for HistoryNames: R3 to SLayP. Printed from longer texts. -/
import Derived.Test.YtakonfolegckgaaGreatDoorF
import Derived.Lib.LaidTab
import Derived.Test.YtakonfolegckgaaGreatDoorRows
import Derived.KernelRfl
import Derived.Shelf.SlLaysF
import Derived.Shelf.Strings.Builder1
import Derived.Shelf.Strings.BuilderF
import Derived.Shelf.Strings.BuilderK
import Derived.Shelf.LaysM
import Derived.Shelf.Strconv.Itoa4
set_option linter.all false
set_option maxHeartbeats 64000000
open Array renaming getElem?_eq_some_iff→iu
open Go.DataW renaming Whole→aLd
open Go.Lib renaming TabIs→avi
open Go.Value renaming int→aLo
open List renaming mem_append_right→Vn,nodup_append→T3
open Option renaming bind_some→Pa
open Prod.mk renaming injEq→cd
namespace Go.PI
open Go Go.ChangeShapes Go.WideShapes Go.RowKit Go.WideElems
section
variable{H:Type}{enc:TypeId×Value→H}{P:Program}
theorem ajb{c:Nat→V×Value}{f:Nat}{fn:Func}{s:ChangeSpec}{W:World}{args:Array Value}{ds gs:List (DataW H)}{before:List MemPlace}{tb:TypeId}{xs:List D}
  (hl:laidOutB P=true)(hts:∀t∈fn.params.toList,P.readableRec t=true∧t<P.types.size)(hr:fn.resultTypes= #[tb])(hb:P.underlying tb=some .bool)(ag2:s.vars=[])
  (hs1:(s.fn H (ds++gs)).results=[.lit (.bool true)])(hs2:(s.fn H (ds++gs)).args=ds)(hs3:(s.fn H (ds++gs)).vars=[])
  (hW:aLd enc P fn.params.toList s.vars false W args.toList ds gs before)(hp:P7 P c f xs (.bool true))(hc1:∀(i:Nat) (d:D) (v:Value),c i=(V.d d,v)→i6 (GW W) d v)(hc2:∀i,Nt (c i) W.heap.size W)
  (hx:args.size=xs.length)(hd:∀(i:Nat) (x:D) (v:Value),xs[i]? =some x→args[i]? =some v→i6 (GW W) x v):
  Calls P f args W fun e W'=>∃v,e= .returned v∧s.post enc P fn false true false false W args v W':=by
 refine(hp.2 (GW W) W args hc1 hc2 (aA6 W) hx hd).mono ?_;rintro e W' ⟨v,G',rfl,_,_,_,hB,hv⟩;cases hv;have hW':=hW;obtain⟨p,q,hA,hV,rfl,_,_⟩:=hW';have hlt:=hW.lt;rw[ag2]at hV;obtain⟨rfl,rfl⟩:=trodVars_none hV;refine⟨_,rfl,ds,[],p++[],[],p,[],hW,?_,?_,?_,hB.toBelow.frame _,fun h=>by cases h⟩
 ·rw[hr,hs1];exact trodAll_mk1 (shut_bool hb true)
 ·rw[hs2];exact Q3 hl hB.toBelow hts hA fun x hx=>hlt x (by simpa using hx)
 rw[hs3,ag2];rfl
theorem aac{x:String×DataW Unit}{r:List (String×DataW Unit)}{w:World}(h:laidMet P (x::r) w):laidMet P r w:=by
 obtain⟨ps,⟨g,t,cs,fuel,p,q,h1,h2,h3,h4,h5,rfl⟩,hn,hk⟩:=h;refine⟨q,h5,(T3.1 hn).2.1,fun b off hm=>hk b off (Vn _ hm)⟩
theorem ahv{w:World}{name:String}{k:IntKind}{zs:List Int}{g:Nat}(hg:P.globalNamed name=some g)(h:avi P w name k zs):
  Nt (.no,.agg #[.pointer (some ⟨g,0,none⟩),.agg (zs.map fun z=>aLo k z).toArray]) w.heap.size w:=by
 intro b cs e;simp only[cd,Value.agg.injEq,true_and]at e
 obtain⟨rfl,rfl⟩:b=g∧cs=(zs.map fun z=>aLo k z).toArray:=by
  have e1:=congrArg (fun a:Array Value=>a[0]?) e;have e2:=congrArg (fun a:Array Value=>a[1]?) e;simp at e1 e2;exact⟨e1.symm,e2.symm⟩
 unfold avi World.var? at h;rw[hg]at h;simp only[Pa]at h;split at h
 ·rename_i cs' T fz hh
  injection h with h
  subst h;exact⟨(iu.1 hh).1,T,fz,hh⟩
 cases h
end
end Go.PI
namespace Go.Proofs.YtakonfolegckgaaGreatDoor
open Go Go.PI
def ftB(f:Ft)(m:Nat):Prop:=f.vs.length≤m∧f.ls.length≤m∧∀q∈f.ls,q.length≤m
def ndB(n:Nd)(m:Nat):Prop:=ftB n.f m∧n.ins.length≤m
def trB(t:Tr)(m:Nat):Prop:=t.ps.length≤m∧t.ns.length≤m∧∀n∈t.ns,ndB n m
section
variable{H:Type}{enc:TypeId×Value→H}{w:World}{μ:DataW H→Nat}
theorem rd2:Rd enc Tryz.prog w μ 2 (fun n:Int=>[.int .i64 n]) (fun _ _=>True):=
 Rd.int Tryz.underlying2
theorem rd3:Rd enc Tryz.prog w μ 3 (fun n:Int=>[.int .i64 n]) (fun _ _=>True):=
 Rd.int Tryz.underlying3
theorem aGe:Rd enc Tryz.prog w μ 37 (fun n:Int=>[.int .i64 n]) (fun _ _=>True):=
 Rd.int Tryz.underlying37
theorem rd9:Rd enc Tryz.prog w μ 9 (fun n:ByteArray=>[.str n]) (fun _ _=>True):=
 Rd.str Tryz.underlying9
theorem aG7(hμ:Mu μ):Rd enc Tryz.prog w μ 78 ti (fun _ _=>True):=
 Rd.conv (Rd.struct hμ Tryz.underlying78 (l:=[(9,0),(2,1)]) (by kernel_rfl) (by kernel_rfl) (RdF.cons (k:=1) (by kernel_rfl) (rd9) (RdF.cons (k:=1) (by kernel_rfl) (rd2) RdF.nil))) (fun p=>⟨p.1,p.2.1⟩) (fun _=>rfl) (fun _ _ _=>trivial)
theorem aG6(hμ:Mu μ):Rd enc Tryz.prog w μ 97 Gj (fun _ _=>True):=
 Rd.conv (Rd.struct hμ Tryz.underlying97 (l:=[(9,0),(2,1),(2,2)]) (by kernel_rfl) (by kernel_rfl) (RdF.cons (k:=1) (by kernel_rfl) (rd9) (RdF.cons (k:=1) (by kernel_rfl) (rd2) (RdF.cons (k:=1) (by kernel_rfl) (rd2) RdF.nil)))) (fun p=>⟨p.1,p.2.1,p.2.2.1⟩) (fun _=>rfl) (fun _ _ _=>trivial)
theorem aDk(hμ:Mu μ):Rd enc Tryz.prog w μ 196 C5 (fun _ _=>True):=
 Rd.conv (Rd.array hμ Tryz.underlying196 (l:=[(2,0),(2,1)]) (by kernel_rfl) (by kernel_rfl) (RdF.cons (k:=1) (by kernel_rfl) (rd2) (RdF.cons (k:=1) (by kernel_rfl) (rd2) RdF.nil))) (fun p=>(p.1,p.2.1)) (fun _=>rfl) (fun _ _ _=>trivial)
theorem aDl(hμ:Mu μ):Rd enc Tryz.prog w μ 157 (fun l:List Sp=>[xf l]) (fun l m=>l.length≤m):=
 Rd.conv (Rd.slice hμ Tryz.underlying157 (sz:=2) (by kernel_rfl) (by decide) (fun _=>rfl) (aDk hμ)) (fun l=>l) (fun _=>rfl) (fun _ _ h=>h.1)
theorem aGc(hμ:Mu μ):Rd enc Tryz.prog w μ 39 (fun l:List (List Sp)=>[ku l]) (fun l m=>l.length≤m∧∀q∈l,q.length≤m):=
 Rd.conv (Rd.slice hμ Tryz.underlying39 (sz:=1) (by kernel_rfl) (by decide) (fun _=>rfl) (aDl hμ)) (fun l=>l) (fun _=>rfl) (fun _ _ h=>h)
theorem aGb(hμ:Mu μ):Rd enc Tryz.prog w μ 41 (fun l:List (List Sp)=>[ku l]) (fun l m=>l.length≤m∧∀q∈l,q.length≤m):=
 Rd.conv (Rd.struct hμ Tryz.underlying41 (l:=[(39,0)]) (by kernel_rfl) (by kernel_rfl) (RdF.cons (k:=1) (by kernel_rfl) (aGc hμ) RdF.nil)) (fun p=>p.1) (fun _=>rfl) (fun _ _ h=>h.1)
theorem aGd(hμ:Mu μ):Rd enc Tryz.prog w μ 38 (fun l:List Vl=>[vn l]) (fun l m=>l.length≤m):=
 Rd.conv (Rd.slice hμ Tryz.underlying38 (sz:=3) (by kernel_rfl) (by decide) (fun _=>rfl) (aG6 hμ)) (fun l=>l) (fun _=>rfl) (fun _ _ h=>h.1)
theorem aGh(hμ:Mu μ):Rd enc Tryz.prog w μ 22 (fun l:List Pm=>[jq l]) (fun l m=>l.length≤m):=
 Rd.conv (Rd.slice hμ Tryz.underlying22 (sz:=2) (by kernel_rfl) (by decide) (fun _=>rfl) (aG7 hμ)) (fun l=>l) (fun _=>rfl) (fun _ _ h=>h.1)
theorem aG9(hμ:Mu μ):Rd enc Tryz.prog w μ 44 (fun l:List ByteArray=>[ng l]) (fun l m=>l.length≤m):=
 Rd.conv (Rd.slice hμ Tryz.underlying44 (sz:=1) (by kernel_rfl) (by decide) (fun _=>rfl) (rd9)) (fun l=>l) (fun _=>rfl) (fun _ _ h=>h.1)
theorem aGa(hμ:Mu μ):Rd enc Tryz.prog w μ 43 cFt ftB:=
 Rd.conv (Rd.struct hμ Tryz.underlying43 (l:=[(37,0),(38,1),(41,2)]) (by kernel_rfl) (by kernel_rfl) (RdF.cons (k:=1) (by kernel_rfl) (aGe) (RdF.cons (k:=1) (by kernel_rfl) (aGd hμ) (RdF.cons (k:=1) (by kernel_rfl) (aGb hμ) RdF.nil)))) (fun p=>⟨p.1,p.2.1,p.2.2.1⟩) (fun _=>rfl) (fun _ _ h=>⟨h.2.1,h.2.2.1⟩)
theorem aG8(hμ:Mu μ):Rd enc Tryz.prog w μ 46 zw ndB:=
 Rd.conv (Rd.struct hμ Tryz.underlying46 (l:=[(9,0),(43,1),(44,4)]) (by kernel_rfl) (by kernel_rfl) (RdF.cons (k:=1) (by kernel_rfl) (rd9) (RdF.cons (k:=3) (by kernel_rfl) (aGa hμ) (RdF.cons (k:=1) (by kernel_rfl) (aG9 hμ) RdF.nil)))) (fun p=>⟨p.1,p.2.1,p.2.2.1⟩) (fun _=>rfl) (fun _ _ h=>⟨h.2.1,h.2.2.1⟩)
theorem aGg(hμ:Mu μ):Rd enc Tryz.prog w μ 23 (fun l:List Nd=>[l5 l]) (fun l m=>l.length≤m∧∀n∈l,ndB n m):=
 Rd.conv (Rd.slice hμ Tryz.underlying23 (sz:=5) (by kernel_rfl) (by decide) (fun _=>rfl) (aG8 hμ)) (fun l=>l) (fun _=>rfl) (fun _ _ h=>h)
theorem aGf(hμ:Mu μ):Rd enc Tryz.prog w μ 25 ud trB:=
 Rd.conv (Rd.struct hμ Tryz.underlying25 (l:=[(22,0),(23,1)]) (by kernel_rfl) (by kernel_rfl) (RdF.cons (k:=1) (by kernel_rfl) (aGh hμ) (RdF.cons (k:=1) (by kernel_rfl) (aGg hμ) RdF.nil))) (fun p=>⟨p.1,p.2.1⟩) (fun _=>rfl) (fun _ _ h=>⟨h.1,h.2.1.1,h.2.1.2⟩)
end
end Go.Proofs.YtakonfolegckgaaGreatDoor
namespace Go.Proofs
open Go.Shelf
def Tryz.lays169_ren:Go.Shelf.Ren:=⟨fun|169=>131|n=>n,fun|70=>185|9=>9|0=>0|72=>188|37=>186|127=>271|3=>3|5=>5|n=>n,fun|n=>n⟩
theorem Tryz.lays169:Go.Proofs.Lays.n169 Tryz.prog Tryz.lays169_ren:={
 mixed:=by kernel_rfl
 f169:=Tryz.func131.trans (congrArg some (by kernel_rfl))
 t0:=Tryz.underlying0
 a0:=Tryz.isAgg0
 z0:=Tryz.sizeOf0
 v0:=Tryz.zeroValue0
 t3:=Tryz.underlying3
 a3:=Tryz.isAgg3
 z3:=Tryz.sizeOf3
 v3:=Tryz.zeroValue3
 t9:=Tryz.underlying9
 a9:=Tryz.isAgg9
 z9:=Tryz.sizeOf9
 v9:=Tryz.zeroValue9
 t37:=Tryz.underlying186
 a37:=Tryz.isAgg186
 z37:=Tryz.sizeOf186
 v37:=Tryz.zeroValue186
 t70:=Tryz.underlying185
 a70:=Tryz.isAgg185
 z70:=Tryz.sizeOf185
 v70:=Tryz.zeroValue185
 t72:=Tryz.underlying188
 a72:=Tryz.isAgg188
 z72:=Tryz.sizeOf188
 v72:=Tryz.zeroValue188
 t127:=Tryz.underlying271
 a127:=Tryz.isAgg271
 z127:=Tryz.sizeOf271
 v127:=Tryz.zeroValue271}
theorem Tryz.Builder_Extra_169:Builder.Extra Tryz.prog Tryz.lays169_ren:={
 sizeBuilder:=by kernel_rfl
 liesBuilder:=by kernel_rfl
 t5:=Tryz.underlying5
 a5:=Tryz.isAgg5
 z5:=Tryz.sizeOf5
 v5:=Tryz.zeroValue5
 infoByte:=by kernel_rfl
 cellsByte:=by kernel_rfl
 sizeByte:=by kernel_rfl
 neB5:=by decide}
open Go.RowKit in
theorem Tryz.Builder_String_any_k(B b:Nat)(l:List UInt8)(w:World)(h:Lib.IsBuilderF 188 5 B b (Lib.byteCells l) w)(hBw:B≤w.heap.size):
  Calls Tryz.prog 131 #[.pointer (some ⟨b,0,none⟩)] w fun e w'=>e= .returned (.string ⟨l.toArray⟩)∧(Lib.IsBuilderF 188 5 B b (Lib.byteCells l) w'∧Below B w w'∧Lib.OthersKept 5 (some b) w w'):=Any.Builder_String_any_k Tryz.lays169 Tryz.Builder_Extra_169 B b l w h hBw
def Tryz.laysM173_ren:Go.Shelf.Ren:=⟨fun|173=>129|246=>191|283=>254|284=>255|285=>256|286=>257|129=>335|317=>334|318=>336|319=>337|320=>338|337=>415|338=>416|n=>n,fun|2=>2|3=>3|9=>9|4=>4|171=>363|0=>0|53=>287|37=>186|5=>5|173=>366|212=>470|51=>471|20=>20|213=>472|46=>396|232=>643|233=>644|n=>n,fun|17=>3|18=>4|19=>5|n=>n⟩
theorem Tryz.laysM173:Go.Proofs.LaysM.n173 Tryz.prog Tryz.laysM173_ren:={
 mixed:=by kernel_rfl
 f129:=Tryz.func335.trans (congrArg some (by kernel_rfl))
 f173:=Tryz.func129.trans (congrArg some (by kernel_rfl))
 f246:=Tryz.func191.trans (congrArg some (by kernel_rfl))
 f283:=Tryz.func254.trans (congrArg some (by kernel_rfl))
 f284:=Tryz.func255.trans (congrArg some (by kernel_rfl))
 f285:=Tryz.func256.trans (congrArg some (by kernel_rfl))
 f286:=Tryz.func257.trans (congrArg some (by kernel_rfl))
 f317:=Tryz.func334.trans (congrArg some (by kernel_rfl))
 f318:=Tryz.func336.trans (congrArg some (by kernel_rfl))
 f319:=Tryz.func337.trans (congrArg some (by kernel_rfl))
 f320:=Tryz.func338.trans (congrArg some (by kernel_rfl))
 f337:=Tryz.func415.trans (congrArg some (by kernel_rfl))
 f338:=Tryz.func416.trans (congrArg some (by kernel_rfl))
 t0:=Tryz.underlying0
 a0:=Tryz.isAgg0
 z0:=Tryz.sizeOf0
 v0:=Tryz.zeroValue0
 t2:=Tryz.underlying2
 a2:=Tryz.isAgg2
 z2:=Tryz.sizeOf2
 v2:=Tryz.zeroValue2
 t3:=Tryz.underlying3
 a3:=Tryz.isAgg3
 z3:=Tryz.sizeOf3
 v3:=Tryz.zeroValue3
 t4:=Tryz.underlying4
 a4:=Tryz.isAgg4
 z4:=Tryz.sizeOf4
 v4:=Tryz.zeroValue4
 t5:=Tryz.underlying5
 a5:=Tryz.isAgg5
 z5:=Tryz.sizeOf5
 v5:=Tryz.zeroValue5
 t9:=Tryz.underlying9
 a9:=Tryz.isAgg9
 z9:=Tryz.sizeOf9
 v9:=Tryz.zeroValue9
 t20:=Tryz.underlying20
 a20:=Tryz.isAgg20
 z20:=Tryz.sizeOf20
 v20:=Tryz.zeroValue20
 t37:=Tryz.underlying186
 a37:=Tryz.isAgg186
 z37:=Tryz.sizeOf186
 v37:=Tryz.zeroValue186
 t46:=Tryz.underlying396
 a46:=Tryz.isAgg396
 z46:=Tryz.sizeOf396
 v46:=Tryz.zeroValue396
 t51:=Tryz.underlying471
 a51:=Tryz.isAgg471
 z51:=Tryz.sizeOf471
 v51:=Tryz.zeroValue471
 t53:=Tryz.underlying287
 a53:=Tryz.isAgg287
 z53:=Tryz.sizeOf287
 v53:=Tryz.zeroValue287
 t171:=Tryz.underlying363
 a171:=Tryz.isAgg363
 z171:=Tryz.sizeOf363
 v171:=Tryz.zeroValue363
 t173:=Tryz.underlying366
 a173:=Tryz.isAgg366
 z173:=Tryz.sizeOf366
 v173:=Tryz.zeroValue366
 t212:=Tryz.underlying470
 a212:=Tryz.isAgg470
 z212:=Tryz.sizeOf470
 v212:=Tryz.zeroValue470
 t213:=Tryz.underlying472
 a213:=Tryz.isAgg472
 z213:=Tryz.sizeOf472
 t232:=Tryz.underlying643
 a232:=Tryz.isAgg643
 z232:=Tryz.sizeOf643
 v232:=Tryz.zeroValue643
 t233:=Tryz.underlying644
 a233:=Tryz.isAgg644
 z233:=Tryz.sizeOf644
 v233:=Tryz.zeroValue644
 g17:=by kernel_rfl
 g18:=by kernel_rfl
 g19:=by kernel_rfl
 i0:=by kernel_rfl
 i2:=by kernel_rfl
 i3:=by kernel_rfl
 i4:=by kernel_rfl
 i5:=by kernel_rfl
 i9:=by kernel_rfl
 i20:=by kernel_rfl
 i37:=by kernel_rfl
 i46:=by kernel_rfl
 i51:=by kernel_rfl
 i53:=by kernel_rfl
 i171:=by kernel_rfl
 i173:=by kernel_rfl
 i212:=by kernel_rfl
 i232:=by kernel_rfl
 i233:=by kernel_rfl
 m17:=by kernel_rfl
 m18:=by kernel_rfl
 m19:=by kernel_rfl}
open Go.RowKit Go.Sort Go.Lib in
theorem Tryz.strconv_FormatInt_10(n:Int)(h0: -9223372036854775808≤n)(h1:n≤9223372036854775807)(w:World)(htab:Lib.TabIs Tryz.prog w "internal/strconv.uint64pow10" .u64 Lib.pow10Tab):
  Calls Tryz.prog 129 #[.int .i64 n,.int .i64 10] w fun e w'=>e= .returned (.string ⟨(Lib.itoa n).toArray⟩)∧∃k os,w'=grow (w.drewN k) os:=Any.strconv_FormatInt_10 Tryz.laysM173 n h0 h1 w htab
def Tryz.l6_ren:Go.Shelf.Ren:=⟨fun|6=>251|15=>333|14=>332|28=>414|29=>335|20=>406|21=>407|22=>408|23=>409|24=>410|25=>411|26=>412|27=>413|46=>480|47=>481|48=>482|49=>483|50=>484|57=>530|n=>n,fun|22=>39|24=>157|25=>360|3=>3|39=>396|0=>0|53=>471|55=>287|4=>4|46=>564|45=>563|50=>89|5=>5|9=>9|66=>637|70=>641|76=>679|77=>80|n=>n,fun|n=>n⟩
theorem Tryz.l6:Go.Proofs.SlLaysF.n6 Tryz.prog Tryz.l6_ren:={
 mixed:=by kernel_rfl
 f6:=⟨Tryz.f251.name,by decide,Tryz.func251.trans (congrArg some (by kernel_rfl))⟩
 f14:=⟨Tryz.f332.name,by decide,Tryz.func332.trans (congrArg some (by kernel_rfl))⟩
 f15:=Tryz.func333.trans (congrArg some (by kernel_rfl))
 f20:=⟨Tryz.f406.name,by decide,Tryz.func406.trans (congrArg some (by kernel_rfl))⟩
 f21:=⟨Tryz.f407.name,by decide,Tryz.func407.trans (congrArg some (by kernel_rfl))⟩
 f22:=⟨Tryz.f408.name,by decide,Tryz.func408.trans (congrArg some (by kernel_rfl))⟩
 f23:=⟨Tryz.f409.name,by decide,Tryz.func409.trans (congrArg some (by kernel_rfl))⟩
 f24:=⟨Tryz.f410.name,by decide,Tryz.func410.trans (congrArg some (by kernel_rfl))⟩
 f25:=⟨Tryz.f411.name,by decide,Tryz.func411.trans (congrArg some (by kernel_rfl))⟩
 f26:=⟨Tryz.f412.name,by decide,Tryz.func412.trans (congrArg some (by kernel_rfl))⟩
 f27:=⟨Tryz.f413.name,by decide,Tryz.func413.trans (congrArg some (by kernel_rfl))⟩
 f28:=Tryz.func414.trans (congrArg some (by kernel_rfl))
 f29:=Tryz.func335.trans (congrArg some (by kernel_rfl))
 f46:=⟨Tryz.f480.name,by decide,Tryz.func480.trans (congrArg some (by kernel_rfl))⟩
 f47:=Tryz.func481.trans (congrArg some (by kernel_rfl))
 f48:=Tryz.func482.trans (congrArg some (by kernel_rfl))
 f49:=⟨Tryz.f483.name,by decide,Tryz.func483.trans (congrArg some (by kernel_rfl))⟩
 f50:=⟨Tryz.f484.name,by decide,Tryz.func484.trans (congrArg some (by kernel_rfl))⟩
 f57:=⟨Tryz.f530.name,by decide,Tryz.func530.trans (congrArg some (by kernel_rfl))⟩
 t0:=Tryz.underlying0
 a0:=Tryz.isAgg0
 z0:=Tryz.sizeOf0
 v0:=Tryz.zeroValue0
 t3:=Tryz.underlying3
 a3:=Tryz.isAgg3
 z3:=Tryz.sizeOf3
 v3:=Tryz.zeroValue3
 t4:=Tryz.underlying4
 a4:=Tryz.isAgg4
 z4:=Tryz.sizeOf4
 v4:=Tryz.zeroValue4
 t5:=Tryz.underlying5
 a5:=Tryz.isAgg5
 z5:=Tryz.sizeOf5
 v5:=Tryz.zeroValue5
 t9:=Tryz.underlying9
 a9:=Tryz.isAgg9
 z9:=Tryz.sizeOf9
 v9:=Tryz.zeroValue9
 t22:=Tryz.underlying39
 a22:=Tryz.isAgg39
 z22:=Tryz.sizeOf39
 v22:=Tryz.zeroValue39
 a24:=Tryz.isAgg157
 z24:=Tryz.sizeOf157
 t25:=Tryz.underlying360
 a25:=Tryz.isAgg360
 z25:=Tryz.sizeOf360
 v25:=Tryz.zeroValue360
 t39:=Tryz.underlying396
 a39:=Tryz.isAgg396
 z39:=Tryz.sizeOf396
 v39:=Tryz.zeroValue396
 t45:=Tryz.underlying563
 a45:=Tryz.isAgg563
 z45:=Tryz.sizeOf563
 v45:=Tryz.zeroValue563
 t46:=Tryz.underlying564
 a46:=Tryz.isAgg564
 z46:=Tryz.sizeOf564
 v46:=Tryz.zeroValue564
 t50:=Tryz.underlying89
 a50:=Tryz.isAgg89
 z50:=Tryz.sizeOf89
 v50:=Tryz.zeroValue89
 t53:=Tryz.underlying471
 a53:=Tryz.isAgg471
 z53:=Tryz.sizeOf471
 v53:=Tryz.zeroValue471
 t55:=Tryz.underlying287
 a55:=Tryz.isAgg287
 z55:=Tryz.sizeOf287
 v55:=Tryz.zeroValue287
 t66:=Tryz.underlying637
 a66:=Tryz.isAgg637
 z66:=Tryz.sizeOf637
 v66:=Tryz.zeroValue637
 t70:=Tryz.underlying641
 a70:=Tryz.isAgg641
 z70:=Tryz.sizeOf641
 v70:=Tryz.zeroValue641
 t76:=Tryz.underlying679
 a76:=Tryz.isAgg679
 z76:=Tryz.sizeOf679
 v76:=Tryz.zeroValue679
 t77:=Tryz.underlying80
 a77:=Tryz.isAgg80
 z77:=Tryz.sizeOf80
 v77:=Tryz.zeroValue80}
end Go.Proofs
