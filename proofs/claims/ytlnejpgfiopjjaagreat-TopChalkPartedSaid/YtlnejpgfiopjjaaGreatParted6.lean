/- Part 9 of what YtlnejpgfiopjjaaGreatParted leans on. -/
import Derived.KernelRfl
import Derived.Test.YtlnejpgfiopjjaaGreatPartedL1
import Derived.Test.YtlnejpgfiopjjaaGreatPartedL2
import Derived.Test.YtlnejpgfiopjjaaGreatPartedL3
import Derived.Test.YtlnejpgfiopjjaaGreatParted1
import Derived.Test.YtlnejpgfiopjjaaGreatParted2
import Derived.Test.YtlnejpgfiopjjaaGreatParted3
import Derived.Test.YtlnejpgfiopjjaaGreatParted4
import Derived.Test.YtlnejpgfiopjjaaGreatParted5
set_option linter.all false
namespace LM.GZ
open Go LM
variable {P:Nat→Option SFunc} [Has P]
variable {Q:Nat→Option LFunc} {r:CRn} {names:List Str} {n m:Nat} {L:List CEn} {bl bq pa bp bc:Nat} {keep:List (Nat × LB)}
def qR:LCode:=match eX with
 | .seq _ (.seq _ (.seq _ (.seq (.seq _ (.block _ (.rangeFn _ _ a _))) _)))=>a
 | _=>.skip
def qU:LCode:=match eX with
 | .seq _ (.seq _ (.seq _ (.seq (.seq _ (.block _ (.rangeFn _ _ _ b))) _)))=>b
 | _=>.skip
def MU:LCode:=match eX with
 | .seq a _=>a
 | _=>.skip
def OL:LCode:=match eX with
 | .seq _ (.seq b _)=>b
 | _=>.skip
def Nj:LCode:=match eX with
 | .seq _ (.seq _ (.seq c _))=>c
 | _=>.skip
def Oq:LCode:=match eX with
 | .seq _ (.seq _ (.seq _ (.seq (.seq d _) _)))=>d
 | _=>.skip
def NW:LCode:=match eX with
 | .seq _ (.seq _ (.seq _ (.seq _ (.seq f _))))=>f
 | _=>.skip
theorem Q9:eX=.seq MU (.seq OL (.seq Nj (.seq (.seq Oq (.block 0 (.rangeFn (.t 16) [17,18] qR qU))) (.seq NW .ret)))):=rfl
theorem RZ (x0 x1 x2 x3 x4 x5 x6 x8 x9 x10 x11 x12 x13 x14 x15 x16 x17 x18 x19 x20 x21 x22 x23 x24 x25 x26 x27 x28 x29 x30 x31:LV):G3 (dm (exec Q (runs Q m).1 (runs Q m).2 qR) (exec Q (runs Q m).1 (runs Q m).2 qU) [17,18] [x0,x1,x2,x3,x4,x5,x6,.ptr pa 0 0,x8,x9,x10,x11,x12,x13,x14,x15,x16,x17,x18,x19,x20,x21,x22,x23,x24,x25,x26,x27,x28,x29,x30,x31]) pa:=by
 refine⟨fun i H=>?_,fun i k H H' hk ht=>?_⟩
 ·unfold dm qR qU eX
  simp[i7]
 ·obtain⟨a,b,g,len,H1,g1,ha,hap,g2,rfl⟩:=ht
  have hk2:¬ (k:Int)=0:=by omega
  obtain⟨l1,g1'⟩:=List.getElem?_eq_some_iff.1 g1
  obtain⟨l2,g2'⟩:=List.getElem?_eq_some_iff.1 g2
  simp only[refE] at hap
  rcases ha with rfl | ⟨b1,g3,len1,rfl⟩
  ·unfold dm qR qU eX
   simp[i7,hk,hk2,g1,g1',g2,g2',hap,l1,l2]
  ·unfold dm qR qU eX
   simp[i7,hk,hk2,g1,g1',g2,g2',hap,l1,l2]
end LM.GZ
namespace LM.GZ
open Go LM
variable {P:Nat→Option SFunc} [Has P]
variable {Q:Nat→Option LFunc} {r:CRn} {names:List Str} {n m:Nat} {L:List CEn} {bl bq pa bp bc:Nat} {keep:List (Nat × LB)} {s:CSs} {vs:List (LV × LV)} {H:Heap}
theorem B9 {ru:Run} {ri:jD} {f nt:Nat} {itb:LCode} (hp:Q f=some (.code .shared nt [] itb)) (ps:List Nat) (asg body:LCode) (s:St) (a b:Nat):qV Q ru ri ps asg body s (.func f [] [.ptr a 0 0,.ptr b 0 0])=lh s.tmps (ri (dm (exec Q ru ri asg) (exec Q ru ri body) ps s.tmps) itb ⟨pad nt [.tuple [],.ptr a 0 0,.ptr b 0 0],s.heap⟩ none):=by
 unfold qV
 simp[da,hp]
theorem F81 {H:Heap} {t:Int} {k:Nat} {a:LV} (ha:a=.nil∨∃ b g len,a=.slice b g 0 len (some 2) none) (g1:H[1]? = some (.cells 1 [.c (ci 0),.nil] 0)) (gp:H[bp]? = some (plB r names bc 1 k t)) (ga:H[pa]? = some (.cells 0 [a] 0)) (x0 x1 x2 x3 x5 x8 x9 x10 x11 x12 x13 x14 x15 x16 x17 x18 x19 x20 x21 x22 x23 x24 x25 x26 x27 x28 x29 x30 x31:LV) :
  ∃ ts,exec Q (runs Q m).1 (runs Q m).2 NW ⟨[x0,x1,x2,x3,.ptr 1 1 0,x5,.ptr bp 0 0,.ptr pa 0 0,x8,x9,x10,x11,x12,x13,x14,x15,x16,x17,x18,x19,x20,x21,x22,x23,x24,x25,x26,x27,x28,x29,x30,x31],H⟩=some (.normal,⟨ts,H.set 1 (.cells 1 [.c (ci t),.slice bc 1 0 k (some 11) none] 0)⟩)∧ts.getD 4 .undef=.ptr 1 1 0∧ts.getD 5 .undef=a:=by
 obtain⟨l1,g1'⟩:=List.getElem?_eq_some_iff.1 g1
 obtain⟨l2,gp'⟩:=List.getElem?_eq_some_iff.1 gp
 obtain⟨l3,ga'⟩:=List.getElem?_eq_some_iff.1 ga
 refine⟨?ts,?e,?f,?g⟩
 case e =>
  unfold NW eX
  unfold plB at gp gp'
  simp[Es,g1,g1',gp,gp',ga,ga',l1,l2,l3]
  rfl
 case f=>rfl
 case g=>rfl
def ssE (s:CSs):CV:=.agg [ci s.time,.slice (s.cls.map clE)]
theorem PlayH.frz (h:PlayH r names s vs bp bc 1 H) (d:Nat):∃ h',frz (d+3) (.slice bc 1 0 s.cls.length (some 11) none) H=some (.slice (s.cls.map clE),h')∧Cel H h':=by
 obtain⟨h',e,c⟩:=uK d (h:=H) (l:=s.cls.zip vs) (b:=bc) (g:=1) (fz:=0) (cp:=none) h.p.row fun x hx=>⟨(h.p.all x hx).1.w,(h.p.all x hx).2.w⟩
 have hl:(s.cls.zip vs).length=s.cls.length:=by rw[List.length_zip,h.p.len,Nat.min_self]
 have hm:(s.cls.zip vs).map (fun x=>clE x.1)=s.cls.map clE:=by
  have:(s.cls.zip vs).map Prod.fst=s.cls:=List.map_fst_zip (by rw[h.p.len]; exact Nat.le_refl _)
  show List.map (clE ∘ Prod.fst) _=_
  rw[← List.map_map,this]
 rw[hl,hm] at e
 exact⟨h',e,c⟩
theorem E81 (hQ:vG P Q) (q81:Q 81=some Ow) (q196:Q 196=some Hm) (hr:RnOK r) (hsz:r.size≤64) (hn0:0<names.length) (hn:names.length≤160) (hL:L.length<1000) (hD:∀ e ∈ L,DoW P r names e) (hE:∀ e ∈ L,jZ names.length e) :
  ∃ N,pcall Q N 81 [rnE r names,.slice (L.map enE)]=some (.tuple [ssE (bZ r (bo r names.length) L),.slice ((dE r 1 (bo r names.length) L).map refE)]):=by
 obtain⟨hA,hhA⟩ : ∃ hA:Heap,hA=[rnB r names,.cells 1 [.c (ci 0),.nil] 0,.cells 1 [] 0]:=⟨_,rfl⟩
 have hAl:hA.length=3:=by rw[hhA]; rfl
 have ht:(clS r).tries.length<1000:=by unfold clS; simp only; split<;>simp<;>omega
 have hst:CV.agg [ci 0,.slice (List.replicate names.length (clE (clS r)))]=.agg [ci 0,.slice ((List.replicate names.length (clS r)).map clE)]:=by rw[List.map_replicate]
 have e151:=ac1 (P:=P) (r:=r) (names:=names) hsz hn
 rw[hst] at e151
 generalize hS0:CV.agg [ci 0,.slice ((List.replicate names.length (clS r)).map clE)]=st0 at *
 obtain⟨vs,H1,e150,p1,f1,v1⟩:=ac3 (P:=P) (r:=r) (names:=names) (c:=clS r) (t:=0) hn0 (by omega) ht rfl hA
 rw[hS0] at e150
 have xR:aC P (af P) none false 151 [.c (rnE r names)] hA=some (.c st0,hA):=by
  rw[Q5]
  simp[aD,e151,← hS0]
 have AC:aC P (af P) none false 150 [.c (rnE r names),.c st0] hA=some (.ptr 7 0 0,H1):=by
  rw[P2]
  simp[ah,e150,hAl]
 have h7:hA.length+4=7:=by rw[hAl]
 have h6:hA.length+3=6:=by rw[hAl]
 rw[h7,h6] at p1
 obtain⟨pa,hpa⟩ : ∃ pa,pa=H1.length:=⟨_,rfl⟩
 have hp7:7<pa:=by rw[hpa]; exact ltG p1.p.pl
 have lA:(H1++[LB.cells 0 [.nil] 0]).length=pa+1:=by simp[hpa]
 have e152:=aaL (P:=P) 7 (L.map enE) (H1++[.cells 0 [.nil] 0])
 rw[lA] at e152
 have uw:aC P (af P) none false 152 [.ptr 7 0 0,.c (.slice (L.map enE))] (H1++[.cells 0 [.nil] 0])=some (.func 196 [] [.ptr (pa+2) 0 0,.ptr (pa+1) 0 0],H1++[.cells 0 [.nil] 0]++[.cells 0 [.ptr 7 0 0] 0,.cells 0 [.c (.slice (L.map enE))] 0]):=by
  rw[Qo]
  simp[ah] at e152 ⊢
  exact e152
 obtain⟨H2,hH2⟩ : ∃ H2:Heap,H2=H1++[.cells 0 [.nil] 0]++[.cells 0 [.ptr 7 0 0] 0,.cells 0 [.c (.slice (L.map enE))] 0]:=⟨_,rfl⟩
 rw[← hH2] at uw
 have up:∀ k,k<H1.length→H2[k]? = H1[k]?:=fun k hk=>by rw[hH2,List.append_assoc,List.getElem?_append_left hk]
 have p2:PlayH r names (bo r names.length) vs 7 6 1 H2:=p1.stay fun k hk _=>up k hk
 have lo:∀ k,k<3→Sep vs 7 6 k:=fun k hk=>⟨by omega,by omega,fun x hx=>⟨fun e=>by have:=v1 x hx k (.inl e); omega,fun e=>by have:=v1 x hx k (.inr e); omega⟩⟩
 ·have g1:H2[1]? = some (.cells 1 [.c (ci 0),.nil] 0):=by rw[up 1 (by omega),f1 1 (by omega),hhA]; rfl
  have gpa:H2[pa]? = some (.cells 0 [.nil] 0):=by rw[hH2,List.append_assoc,List.getElem?_append_right (by omega),hpa,Nat.sub_self]; rfl
  have gpq:H2[pa+1]? = some (.cells 0 [.ptr 7 0 0] 0):=by rw[hH2,List.append_assoc,List.getElem?_append_right (by omega),show pa+1-H1.length=1 from by omega]; rfl
  have gpl:H2[pa+2]? = some (.cells 0 [.c (.slice (L.map enE))] 0):=by rw[hH2,List.append_assoc,List.getElem?_append_right (by omega),show pa+2-H1.length=2 from by omega]; rfl
  have hB:BehS r names [(pa+2,.cells 0 [.c (.slice (L.map enE))] 0),(pa+1,.cells 0 [.ptr 7 0 0] 0),(1,.cells 1 [.c (ci 0),.nil] 0)] pa 7 6 (bo r names.length) vs [] H2:=by
   refine⟨p2,fun x hx=>?_,p1.sep (by omega),.inl ⟨rfl,gpa⟩⟩
   simp only[List.mem_cons,List.mem_nil_iff,or_false] at hx
   rcases hx with rfl | rfl | rfl
   ·exact⟨gpl,p1.sep (by show H1.length≤pa+2; omega),by show pa+2≠pa; omega⟩
   ·exact⟨gpq,p1.sep (by show H1.length≤pa+1; omega),by show pa+1≠pa; omega⟩
   ·exact⟨g1,lo 1 (by omega),by show 1≠pa; omega⟩
  obtain⟨N4,vs',H',hB',ex⟩:=aao (P:=P) hQ hr hsz hn hL hD hE (bl:=pa+2) (bq:=pa+1) (by simp) (by simp) (oS hr) hB
  obtain⟨N1,k1⟩:=hQ _ _ _ _ _ _ xR
  obtain⟨N2,k2⟩:=hQ _ _ _ _ _ _ AC
  obtain⟨N3,k3⟩:=hQ _ _ _ _ _ _ uw
  obtain⟨M,hM⟩ : ∃ M,M=N1+N2+N3+N4:=⟨_,rfl⟩
  have k1:=k1 M (by omega)
  have k2:=k2 M (by omega)
  have k3:=k3 M (by omega)
  have ex:=ex M (by omega)
  have hk1:=hB'.kept (1,.cells 1 [.c (ci 0),.nil] 0) (by simp)
  have hp':=hB'.play.stay (H':=H'.set 1 (.cells 1 [.c (ci (bZ r (bo r names.length) L).time),.slice 6 1 0 (bZ r (bo r names.length) L).cls.length (some 11) none] 0)) fun k _ hs=>by
   rw[List.getElem?_set_ne]
   rintro rfl
   exact hs hk1.2.1
  obtain⟨a,ha,hga,hfa⟩ : ∃ a,(a=.nil∨∃ b g len,a=.slice b g 0 len (some 2) none)∧H'[pa]? = some (.cells 0 [a] 0)∧∀ h1 X,Cel (H'.set 1 X) h1→∃ h',frz (37+2) a h1=some (.slice ((dE r 1 (bo r names.length) L).map refE),h'):=by
   rcases hB'.out with ⟨o1,o2⟩ | ⟨o1,b,g,o2,o3,o4,o5,o6⟩
   ·refine⟨_,.inl rfl,o2,fun h1 X _=>⟨h1,by rw[o1]; rfl⟩⟩
   ·refine⟨_,.inr ⟨_,_,_,rfl⟩,o2,fun h1 X hc=>?_⟩
    have hb1:(1:Nat)≠b:=o6 _ (by simp:(1,LB.cells 1 [.c (ci 0),.nil] 0) ∈ _)
    obtain⟨fz,e⟩:=hc _ _ _ _ (show (H'.set 1 X)[b]? = _ from by rw[List.getElem?_set_ne hb1]; exact o3)
    exact⟨_,lT (d:=37) e (l4 _) (by simp) none⟩
  obtain⟨h3,z1,z2⟩:=hp'.frz 35
  obtain⟨h4,z3⟩:=hfa h3 _ z2
  have hll:(bZ r (bo r names.length) L).cls.length=names.length:=(zB hr L _ (oS hr) hE).len
  refine⟨M+1,?_⟩
  rw[GT q81,Q9]
  have e1:exec Q (runs Q M).1 (runs Q M).2 MU ⟨pad 32 [.c (rnE r names),.c (.slice (L.map enE))],[]⟩=some (.normal,⟨[.c (rnE r names),.c (.slice (L.map enE)),.ptr 0 0 0,.undef,.ptr 1 1 0,.slice 2 1 0 0 (some 2) none,.undef,.undef,.undef,.undef,.undef,.undef,.undef,.undef,.undef,.undef,.undef,.undef,.undef,.undef,.undef,.undef,.undef,.undef,.undef,.undef,.undef,.undef,.undef,.undef,.undef,.undef],hA⟩):=by
   rw[hhA]
   unfold MU eX
   simp[pad,List.replicate,rnE,rnB]
  have e2:exec Q (runs Q M).1 (runs Q M).2 OL ⟨[.c (rnE r names),.c (.slice (L.map enE)),.ptr 0 0 0,.undef,.ptr 1 1 0,.slice 2 1 0 0 (some 2) none,.undef,.undef,.undef,.undef,.undef,.undef,.undef,.undef,.undef,.undef,.undef,.undef,.undef,.undef,.undef,.undef,.undef,.undef,.undef,.undef,.undef,.undef,.undef,.undef,.undef,.undef],hA⟩=some (.normal,⟨[.c (rnE r names),.c (.slice (L.map enE)),.ptr 0 0 0,.undef,.ptr 1 1 0,.slice 2 1 0 0 (some 2) none,.ptr 7 0 0,.undef,.undef,.undef,.c (rnE r names),.c (rnE r names),.c st0,.ptr 7 0 0,.undef,.undef,.undef,.undef,.undef,.undef,.undef,.undef,.undef,.undef,.undef,.undef,.undef,.undef,.undef,.undef,.undef,.undef],H1⟩):=by
   rw[hhA] at k1 k2 ⊢
   unfold rnB at k1 k2
   simp only[rnE] at k1 k2
   unfold OL eX
   simp[Es,rnE,rnB,k1,k2]
  have e3:exec Q (runs Q M).1 (runs Q M).2 Nj ⟨[.c (rnE r names),.c (.slice (L.map enE)),.ptr 0 0 0,.undef,.ptr 1 1 0,.slice 2 1 0 0 (some 2) none,.ptr 7 0 0,.undef,.undef,.undef,.c (rnE r names),.c (rnE r names),.c st0,.ptr 7 0 0,.undef,.undef,.undef,.undef,.undef,.undef,.undef,.undef,.undef,.undef,.undef,.undef,.undef,.undef,.undef,.undef,.undef,.undef],H1⟩=some (.normal,⟨[.c (rnE r names),.c (.slice (L.map enE)),.ptr 0 0 0,.undef,.ptr 1 1 0,.slice 2 1 0 0 (some 2) none,.ptr 7 0 0,.ptr pa 0 0,.undef,.undef,.c (rnE r names),.c (rnE r names),.c st0,.ptr 7 0 0,.undef,.undef,.undef,.undef,.undef,.undef,.undef,.undef,.undef,.undef,.undef,.undef,.undef,.undef,.undef,.undef,.undef,.undef],H1++[.cells 0 [.nil] 0]⟩):=by
   rw[hpa]
   unfold Nj eX
   simp
  have e4:exec Q (runs Q M).1 (runs Q M).2 Oq ⟨[.c (rnE r names),.c (.slice (L.map enE)),.ptr 0 0 0,.undef,.ptr 1 1 0,.slice 2 1 0 0 (some 2) none,.ptr 7 0 0,.ptr pa 0 0,.undef,.undef,.c (rnE r names),.c (rnE r names),.c st0,.ptr 7 0 0,.undef,.undef,.undef,.undef,.undef,.undef,.undef,.undef,.undef,.undef,.undef,.undef,.undef,.undef,.undef,.undef,.undef,.undef],H1++[.cells 0 [.nil] 0]⟩=some (.normal,⟨[.c (rnE r names),.c (.slice (L.map enE)),.ptr 0 0 0,.undef,.ptr 1 1 0,.slice 2 1 0 0 (some 2) none,.ptr 7 0 0,.ptr pa 0 0,.undef,.undef,.c (rnE r names),.c (rnE r names),.c st0,.ptr 7 0 0,.ptr 7 0 0,.c (.slice (L.map enE)),.func 196 [] [.ptr (pa+2) 0 0,.ptr (pa+1) 0 0],.undef,.undef,.undef,.undef,.undef,.undef,.undef,.undef,.undef,.undef,.undef,.undef,.undef,.undef,.undef],H2⟩):=by
   unfold Oq eX
   simp[k3]
  obtain⟨ts5,e5⟩:=ex _ (RZ (Q:=Q) (m:=M) (pa:=pa) (.c (rnE r names)) (.c (.slice (L.map enE))) (.ptr 0 0 0) .undef (.ptr 1 1 0) (.slice 2 1 0 0 (some 2) none) (.ptr 7 0 0) .undef .undef (.c (rnE r names)) (.c (rnE r names)) (.c st0) (.ptr 7 0 0) (.ptr 7 0 0) (.c (.slice (L.map enE))) (.func 196 [] [.ptr (pa+2) 0 0,.ptr (pa+1) 0 0]) .undef .undef .undef .undef .undef .undef .undef .undef .undef .undef .undef .undef .undef .undef .undef)
  obtain⟨ts6,e6,e7,e8⟩:=F81 (Q:=Q) (m:=M) ha hk1.1 hB'.play.p.pl hga (.c (rnE r names)) (.c (.slice (L.map enE))) (.ptr 0 0 0) .undef (.slice 2 1 0 0 (some 2) none) .undef .undef (.c (rnE r names)) (.c (rnE r names)) (.c st0) (.ptr 7 0 0) (.ptr 7 0 0) (.c (.slice (L.map enE))) (.func 196 [] [.ptr (pa+2) 0 0,.ptr (pa+1) 0 0]) .undef .undef .undef .undef .undef .undef .undef .undef .undef .undef .undef .undef .undef .undef .undef
  simp only[KR,Og,Nt,IY,List.map_cons,List.map_nil,e1,e2,e3,e4,iE]
  have ev16:∀ (a0 a1 a2 a3 a4 a5 a6 a7 a8 a9 a10 a11 a12 a13 a14 a15 a16:LV) l,ev (a0::a1::a2::a3::a4::a5::a6::a7::a8::a9::a10::a11::a12::a13::a14::a15::a16::l) (.t 16)=a16:=fun _ _ _ _ _ _ _ _ _ _ _ _ _ _ _ _ _ _=>rfl
  rw[ev16,B9 q196]
  simp only
  rw[e5]
  simp only[vn,vv,iE]
  rw[KR,e6]
  simp only[iE,IY,AJ]
  generalize hH5:H'.set 1 (.cells 1 [.c (ci (bZ r (bo r names.length) L).time),.slice 6 1 0 (bZ r (bo r names.length) L).cls.length (some 11) none] 0)=H5 at *
  have g5:H5[1]? = some (.cells 1 [.c (ci (bZ r (bo r names.length) L).time),.slice 6 1 0 (bZ r (bo r names.length) L).cls.length (some 11) none] 0):=by
   rw[← hH5,List.getElem?_set_self (ltG hk1.1)]
  rw[List.getD_eq_getElem?_getD] at e7 e8
  have hv:aK ⟨ts6,H5⟩ [.cell 4 (some 2),.tmp 5]=some (.tuple [.agg [.c (ci (bZ r (bo r names.length) L).time),.slice 6 1 0 (bZ r (bo r names.length) L).cls.length (some 11) none],a]):=by
   rcases ha with rfl | ⟨b,g,len,rfl⟩<;>simp[aK,bT,cX,e7,e8,g5,mkTuple,ev]
  rw[hv]
  have fa:∀ cs,LM.frz 39 (.agg cs) H5=bnd (aV (LM.frz 38) cs H5) fun a=>some (.agg a.1,a.2):=fun cs=>by
   simp only[LM.frz]
   rcases aV (LM.frz 38) _ _ with _ | ⟨l,h'⟩<;>rfl
  show bnd (LM.frz ay _ _) _=_
  have z1:LM.frz 38 (.slice 6 1 0 (bZ r (bo r names.length) L).cls.length (some 11) none) H5=_:=z1
  have z3:LM.frz 39 a h3=_:=z3
  rw[mY,bh,fa,bh,ep,ak,bh,z1,ak,io,ak,ak,ak,ak,bh]
  rw[z3]
  rfl
end LM.GZ
namespace LM.GZ
open Go LM
variable {P:Nat→Option SFunc} [Has P] [HasP P]
variable {r:CRn} {names:List Str} {L:List CEn}
def pT (P:Nat→Option SFunc) (W:CRn→CEn→Prop):Prop:=∀ (r:CRn) (names:List Str) (L:List CEn),RnOK r→r.size≤64→0<names.length→names.length≤160→L.length<1000→(∀ e ∈ L,W r e)→(∀ e ∈ L,jZ names.length e) →
 fn P 81 [rnE r names,.slice (L.map enE)]=some (.tuple [ssV (bZ r (bo r names.length) L),.slice ((dE r 1 (bo r names.length) L).map refE)])
theorem S26 {W:CRn→CEn→Prop} (hB:pT P W) (hW:∀ e ∈ L,W r e) (hn:NmOK names) (hr:RnV r) (hE:∀ e ∈ L,EnV names.length e) (hl:L.length≤256) :
  fn P 26 [rnE r names,.slice (L.map enE)]=some (.tuple [ssV (bZ r (bo r names.length) L),.slice ((dE r 1 (bo r names.length) L).map refE),ci 0]):=by
 have e80:=S80 (P:=P) hn hr L hE hl
 have e81:=hB r names L hr.ok hr.sz hn.pos hn.most (by omega) hW fun e he=>(hE e he).1
 rw[u26]
 simp only[rnE,ssV] at *
 generalize (dE r 1 (bo r names.length) L).map refE=A at *
 generalize (bZ r (bo r names.length) L).cls.map clE=C at *
 generalize (bZ r (bo r names.length) L).time=T at *
 generalize L.map enE=E at *
 simp[c26,e80,e81,aK,bT,cX,mkTuple,ev]
end LM.GZ
namespace LM.GZ
open Go LM
theorem DF {α:Type} {f:Nat} {x:α}:∀ {l:List (Nat × α)},lookupPrim f l=some x→f ∈ l.map Prod.fst
 | [],h=>by cases h
 | (k,y)::l,h=>by
  simp only[lookupPrim] at h
  by_cases e:k=f
  ·simp[e]
  ·rw[if_neg e] at h
   simp[DF h]
theorem Y9:(lprog.map Prod.fst).all (fun k=>(lookupPrim k tableA).isNone)=true:=by kernel_rfl
theorem Yy:∀ f x,lookupPrim f lprog=some x→lookupPrim f tableA=none:=by
 intro f x h
 have:=List.all_eq_true.1 Y9 f (DF h)
 simpa using this
theorem QQ:vG (lookupPrim · tableA) fT:=fun _ _ _ _ _ _ h=>MK O1 Yy h
theorem S1 {W:CRn→CEn→Prop} (hW:∀ r names e,W r e→DoW (lookupPrim · tableA) r names e):pT prog W:=by
 intro r names L hr hsz hn0 hn hL hw hE
 obtain⟨N,q⟩:=E81 (P:=(lookupPrim · tableA)) QQ rfl rfl hr hsz hn0 hn hL (fun e he=>hW r names e (hw e he)) hE
 exact SB q
end LM.GZ
namespace LM.GZ
open Go LM
variable {P:Nat→Option SFunc} [Has P]
theorem Vx {r:CRn} {names:List Str} {e:CEn} (hd:r.dc=.lead) (hk:e.kind=.start∨e.kind=.fall):DoW P r names e:=by
 refine⟨fun args h=>by rcases hk with hk | hk<;>simp[hk,kdF],?_⟩
 intro l i c v bp bc gc n t h H hr hsz hv hte ht hc R
 have hb:=hc.began
 have hw:IntKind.i64.wrap (e.time-c.began)=e.time-c.began:=am (by omega) (by omega)
 have G6:∀ X:LB,h.set bc X++[enB e]++[enB e]=h.set bc X++[enB e,enB e]:=fun X=>by simp
 unfold doC
 rcases hk with hk | hk<;>simp only[hk,kdF]
 ·have hd2:¬ r.dc=.boulder:=by rw[hd]; decide
  rw[if_neg hd2]
  exact⟨v,_,TV H.pl hd2 H.ne H.g0 H.row H.at',Cq H (by rfl) (by rfl) [enB e]⟩
 ·simp only[hd]
  refine⟨v,_,(Vh H.pl hd H.ne H.g0 H.row H.at' hw).2,?_⟩
  rw[G6]
  exact Cq H (by rfl) (by rfl) [enB e,enB e]
end LM.GZ
namespace LM.GZ
open Go LM
variable {P:Nat→Option SFunc} [Has P]
structure RdR where
 dc:Str
 names:List Str
 size:Int
 limit:Int
structure EnR where
 who:Int
 kind:Str
 val:Int
 time:Int
def RdR.enc (x:RdR):CV:=.agg [.str x.dc,.slice (x.names.map CV.str),ci x.size,ci x.limit]
def RdR.B (x:RdR):LB:=.cells 0 [.c (.str x.dc),.c (.slice (x.names.map CV.str)),.c (ci x.size),.c (ci x.limit)] 0
def EnR.enc (e:EnR):CV:=.agg [ci e.who,.str e.kind,ci e.val,ci e.time]
def ms (d:Str):Int:=if d=[108,101,97,100] then 64 else if d=[98,111,117,108,100,101,114] then 8 else if d=[115,112,101,101,100] then 8 else 0
theorem aaW (d:Str):fn P 144 [.str d]=some (ci (ms d)):=by
 rw[aab]
 unfold ms
 by_cases h1:d=[108,101,97,100]
 ·simp[si,h1]
 ·by_cases h2:d=[98,111,117,108,100,101,114]
  ·simp[si,h2]
  ·by_cases h3:d=[115,112,101,101,100]
   ·simp[si,h3]
   ·simp[si,h1,h2,h3]
theorem AB (n a b:Int):fn P 145 [ci n,ci a,ci b]=some (.bool (aF n a b)):=by
 rw[acu]
 unfold aF
 by_cases h1:n<a<;>by_cases h2:b<n<;>simp[Na,h1,h2]
def ka (x:RdR):Int :=
 if ms x.dc=0 then 13 else if x.names.length=0 then 12 else if x.names.length > 160 then 5 else
 if aL once [] x.names=0 then if (aF x.size 1 (ms x.dc) || aF x.limit 1 86399999)=true then 3 else 0 else aL once [] x.names
theorem YA (X:RdR) (x:Str) (q:List Str):∀ (r pre:List Str),X.names=pre++r++x::q→(X.names.length:Int)<9223372036854775807 →
  ac P (af P) pV ⟨[.ptr 0 0 0,.c (ci (pre++r).length),.c (ci pre.length)],[X.B]⟩ =
   if r.any (Str.is x) then some (.ret,⟨[.c (ci 9)],[X.B]⟩) else some (.exit 2,⟨[.ptr 0 0 0,.c (ci (pre++r).length)],[X.B]⟩):=by
 intro r
 induction r with
 | nil =>
  intro pre hX h
  rw[JC]
  simp[jv]
 | cons y r ih =>
  intro pre hX h
  have ih:=ih (pre++[y]) (by simpa using hX) h
  have hl:X.names.length=pre.length+(r.length+(q.length+1)+1):=by rw[hX]; simp
  have hw:IntKind.i64.wrap (↑pre.length+1)=↑pre.length+1:=am (by omega) (by omega)
  have hlt:(pre.length:Int)<pre.length+(r.length+1):=by omega
  have b1:(pre.length:Int)<X.names.length:=by omega
  have b2:(pre.length:Int)+(r.length+1)<X.names.length:=by omega
  have b3:pre.length<X.names.length:=by omega
  have b4:pre.length+(r.length+1)<X.names.length:=by omega
  have n0:0≤(pre.length:Int)+(r.length+1):=by omega
  have tn:((pre.length:Int)+(r.length+1)).toNat=pre.length+(r.length+1):=by omega
  have g0:X.names[pre.length]? = some y:=by rw[hX]; simp
  have g1:X.names[pre.length+(r.length+1)]? = some x:=by
   rw[hX]
   simp
  obtain⟨_,g0'⟩:=List.getElem?_eq_some_iff.1 g0
  obtain⟨_,g1'⟩:=List.getElem?_eq_some_iff.1 g1
  have e:=Str.is_eq x y
  simp[-List.any_eq_true] at ih
  unfold RdR.B at ih ⊢
  rw[JC]
  by_cases h0:y=x
  ·simp only[h0,decide_true] at e g0 g0'
   simp[jv,hw,hlt,b1,b2,b3,b4,n0,tn,g0,g0',g1,g1',e,h0,-List.any_eq_true]
  ·simp only[h0,decide_false] at e
   simp[jv,hw,hlt,b1,b2,b3,b4,n0,tn,g0,g0',g1,g1',h0,e,ih,-List.any_eq_true]
theorem Ze (X:RdR) (hl:(X.names.length:Int)<9223372036854775807) (hok:∀ s ∈ X.names,s.length<9223372036854775807):∀ (r pre:List Str),X.names=pre++r →
  ac P (af P) vV ⟨[.ptr 0 0 0,.c (ci pre.length)],[X.B]⟩=if aL once pre r=0 then some (.exit 0,⟨[.ptr 0 0 0],[X.B]⟩) else some (.ret,⟨[.c (ci (aL once pre r))],[X.B]⟩):=by
 intro r
 induction r with
 | nil =>
  intro pre h
  have:X.names.length=pre.length:=by rw[h]; simp
  rw[Lj]
  unfold RdR.B
  simp[hZ,aL,this]
 | cons x r ih =>
  intro pre h
  have ih:=ih (pre++[x]) (by simpa using h)
  have h0:=YA (P:=P) X x r pre [] (by simpa using h) hl
  have ho:=CR pre x
  have hll:X.names.length=pre.length+(r.length+1):=by rw[h]; simp
  simp[-List.any_eq_true] at ih h0
  have hw:IntKind.i64.wrap (↑pre.length+1)=↑pre.length+1:=am (by omega) (by omega)
  have hlt:(pre.length:Int)<X.names.length:=by omega
  have hlt' : pre.length<X.names.length:=by omega
  have g0:X.names[pre.length]? = some x:=by rw[h]; simp
  obtain⟨_,g0'⟩:=List.getElem?_eq_some_iff.1 g0
  unfold RdR.B at ih h0 ⊢
  rw[Lj]
  cases h1:isName x
  ·rw[h1] at ho
   simp at ho
   simp[hZ,hw,hlt,hlt',g0,g0',h1,aL,ho]
  ·rw[h1] at ho
   simp[-List.any_eq_true] at ho
   cases h2:pre.any (Str.is x)
   ·rw[h2] at ho h0
    simp at ho h0
    simp[hZ,hw,hlt,hlt',g0,g0',h1,aL,ho,h0,ih]
   ·rw[h2] at ho h0
    simp at ho h0
    simp[hZ,hw,hlt,hlt',g0,g0',h1,aL,ho,h0]
theorem S78 (X:RdR) (hl:(X.names.length:Int)<9223372036854775807) (hok:∀ s ∈ X.names,s.length<9223372036854775807):fn P 78 [X.enc]=some (ci (ka X)):=by
 have hL:=Ze (P:=P) X hl hok X.names [] rfl
 have e144:=aaW (P:=P) X.dc
 have e1:=AB (P:=P) X.size 1 (ms X.dc)
 have e2:=AB (P:=P) X.limit 1 86399999
 rw[u78]
 unfold ka
 unfold RdR.B at hL
 simp at hL
 generalize ms X.dc=M at *
 unfold RdR.enc
 by_cases h0:M=0
 ·simp[c78,e144,h0]
 ·by_cases h1:X.names.length=0
  ·simp[c78,e144,h0,h1]
  ·have h1' : ¬ (X.names.length:Int)=0:=by omega
   by_cases h2:160<X.names.length
   ·have h2' : (160:Int)<X.names.length:=by omega
    simp[c78,e144,h0,h1,h1',h2,h2']
   ·have h2' : ¬ (160:Int)<X.names.length:=by omega
    by_cases h3:aL once [] X.names=0
    ·rw[if_pos h3] at hL
     cases o1:aF X.size 1 M
     ·rw[o1] at e1
      cases o2:aF X.limit 1 86399999
      ·rw[o2] at e2
       simp[c78,e144,h0,h1,h1',h2,h2',h3,hL,e1,e2]
      ·rw[o2] at e2
       simp[c78,e144,h0,h1,h1',h2,h2',h3,hL,e1,e2]
     ·rw[o1] at e1
      simp[c78,e144,h0,h1,h1',h2,h2',h3,hL,e1]
    ·rw[if_neg h3] at hL
     simp[c78,e144,h0,h1,h1',h2,h2',h3,hL]
end LM.GZ
namespace LM.GZ
open Go LM
variable {P:Nat→Option SFunc} [Has P]
theorem EnR.elem (e:EnR):Elem (some 4) e.enc:=⟨_,rfl,rfl,by simp[CV.flat]⟩
theorem EnR.elems (l:List EnR):∀ x ∈ l.map EnR.enc,Elem (some 4) x:=by
 intro x hx
 obtain⟨y,_,rfl⟩:=List.mem_map.1 hx
 exact y.elem
theorem L25 (A:List EnR) (hA:A.length<1000):∀ (l pre:List EnR),A=pre++l →
  ac P (af P) xC ⟨[.c (.slice (A.map EnR.enc)),.slice 1 (1+pre.length) 0 pre.length (some 4) none,.c (ci A.length),.c (ci pre.length)],[.cells 1 [] 0,.cells (1+pre.length) (cellsOf (pre.map EnR.enc)) 0]⟩
   = some (.exit 0,⟨[.slice 1 (1+A.length) 0 A.length (some 4) none],[.cells 1 [] 0,.cells (1+A.length) (cellsOf (A.map EnR.enc)) 0]⟩):=by
 intro l
 induction l with
 | nil =>
  intro pre h
  have h:A=pre:=by simpa using h
  subst h
  rw[Ju]
  simp[lL]
 | cons x l ih =>
  intro pre h
  have ih:=ih (pre++[x]) (by simp[h])
  have gx:A[pre.length]? = some x:=by rw[h]; simp
  obtain⟨hpl,gx'⟩:=List.getElem?_eq_some_iff.1 gx
  have hw:IntKind.i64.wrap ((pre.length:Int)+1)=(pre.length:Int)+1:=am (by omega) (by omega)
  have hlt:(pre.length:Int)<A.length:=by omega
  have ha:=fun X0=>gN (b:=1) (g:=1+pre.length) (bytes:=40) (e:=some 4) (ys:=pre.map EnR.enc) (xs:=[x.enc]) (h:=[X0,.cells (1+pre.length) (cellsOf (pre.map EnR.enc)) 0]) (len:=pre.length) (fz:=0) rfl (EnR.elems _) (by intro y hy; simp at hy; rw[hy]; exact x.elem) (by simp) (Nat.zero_le _) (by simp) (by simp; omega) (by simp; omega)
  have e1:1+(pre.length+1)=1+pre.length+1:=by omega
  have hu:=bx 2 (pre.map EnR.enc++[x.enc])
  simp only[List.map_append,List.map_cons,List.map_nil,List.length_append,List.length_cons,List.length_nil] at ih ha hu
  generalize pre.map EnR.enc=D at *
  simp[e1] at ih ha hu
  simp only[EnR.enc] at ih ha hu
  rw[Ju]
  simp[lL,hlt,hpl,gx,gx',EnR.enc,ha,hw,hu,ih]
theorem S25 (A:List EnR) (hA:A.length<1000):fn P 25 [.slice (A.map EnR.enc)]=some (.slice (A.map EnR.enc)):=by
 have hL:=L25 (P:=P) A hA A [] rfl
 have hc0:cellsOf (([]:List EnR).map EnR.enc)=[]:=rfl
 have hR:=iV (b:=1) (g:=1+A.length) (fz:=0) (e:=some 4) (ys:=A.map EnR.enc) (h:=[.cells 1 [] 0,.cells (1+A.length) (cellsOf (A.map EnR.enc)) 0]) (len:=A.length) rfl (EnR.elems _) (by simp) none
 rw[u25]
 simp[hc0] at hL
 simp[c25,hL,hR]
end LM.GZ
namespace LM.GZ.J
open Go LM
variable {P:Nat→Option SFunc} [Has P]
structure Stt where
 name:Str
 nation:Str
 seed:Int
def Stt.enc (x:Stt):CV:=.agg [.str x.name,.str x.nation,ci x.seed]
def Stt.ptr (x:Stt):CV:=.ptr [.str x.name,.str x.nation,ci x.seed] 0
def Stt.ok (x:Stt):Prop:=x.name.length<9223372036854775807∧x.nation.length<9223372036854775807
theorem Stt.elem (x:Stt):Elem (some 3) x.enc:=⟨_,rfl,rfl,by simp[CV.flat]⟩
theorem Stt.elems (l:List Stt):∀ x ∈ l.map Stt.enc,Elem (some 3) x:=by
 intro x hx
 obtain⟨y,_,rfl⟩:=List.mem_map.1 hx
 exact y.elem
def Stt.is (n:Str) (x:Stt):Bool:=x.name == n
theorem acE (x c:Stt):fn P 140 [x.enc,c.ptr]=some (.bool (Stt.is c.name x)):=by
 rw[aco]
 simp[NZ,Stt.enc,Stt.ptr,Stt.is]
theorem abN (c:Stt):∀ (l pre:List Stt),((pre++l).length:Int)<9223372036854775807 →
  ac P (af P) rL ⟨[.c (.slice ((pre++l).map Stt.enc)),.c (.func 140 [] [c.ptr]),.c (ci (pre++l).length),.c (ci pre.length)],[]⟩=if l.any (Stt.is c.name) then some (.ret,⟨[.c (ci (fK (Stt.is c.name) pre.length l))],[]⟩) else some (.exit 0,⟨[],[]⟩):=by
 intro l
 induction l with
 | nil =>
  intro pre h
  rw[CS]
  simp[ik]
 | cons x r ih =>
  intro pre h
  have ih:=ih (pre++[x]) (by simpa using h)
  have hc:=acE (P:=P) x c
  simp[Stt.enc] at ih h hc
  have hw:IntKind.i64.wrap (↑pre.length+1)=↑pre.length+1:=am (by omega) (by omega)
  have hlt:(pre.length:Int)<pre.length+(r.length+1):=by omega
  rw[CS]
  cases h0:Stt.is c.name x
  ·simp[ik,hw,hlt,Stt.enc,hc,fK,h0,ih]
  ·simp[ik,hw,hlt,Stt.enc,hc,fK,h0]
theorem ab3 (c:Stt) (l:List Stt) (h:(l.length:Int)<9223372036854775807):fn P 139 [.slice (l.map Stt.enc),.func 140 [] [c.ptr]]=some (.bool (l.any (Stt.is c.name))):=by
 have hl:=abN (P:=P) c l [] (by simpa using h)
 have h2:fn P 188 [.slice (l.map Stt.enc),.func 140 [] [c.ptr]]=some (ci (fK (Stt.is c.name) 0 l)):=by
  rw[Z8]
  simp at hl
  simp[MB,hl]
  exact fun hx=>(mX (by simpa using hx)).symm
 rw[abm]
 simp[OB,h2,zg]
def stE (pre:List Stt) (x:Stt):Int:=aq [av (!isName x.name) 8,av (pre.any (Stt.is x.name)) 9,av (!isName x.nation) 8,av (aF x.seed 0 999999999) 3]
def bm (l:List Stt):Int:=if (l.length:Int) > 160 then 5 else aL stE [] l
def XB (x:Stt) (z:Nat):LB:=.cells 0 [.c (.str x.name),.c (.str x.nation),.c (ci x.seed)] z
theorem L66:∀ (r pre:List Stt),(∀ x ∈ r,x.ok)→((pre++r).length:Int)<9223372036854775807 →
  ∃ H,ac P (af P) qn ⟨[.c (.slice ((pre++r).map Stt.enc)),.c (.slice ((pre++r).map Stt.enc)),.c (ci (pre++r).length),.c (ci pre.length)],[]⟩=if aL stE pre r=0 then some (.exit 0,⟨[],[]⟩) else some (.ret,⟨[.c (ci (aL stE pre r))],H⟩):=by
 intro r
 induction r with
 | nil =>
  intro pre hl h
  refine⟨[],?_⟩
  rw[IM]
  simp[jt,aL]
 | cons x r ih =>
  intro pre hl h
  obtain⟨H,ih⟩:=ih (pre++[x]) (fun y hy=>hl y (by simp[hy])) (by simpa using h)
  have hx:=hl x (by simp)
  unfold Stt.ok at hx
  have e86:=ab3 (P:=P) x pre (by simp at h; omega)
  have e90a:=S85 (P:=P) x.name hx.1
  have e90b:=S85 (P:=P) x.nation hx.2
  have ht:List.take pre.length (List.map Stt.enc pre++x.enc::List.map Stt.enc r)=pre.map Stt.enc:=by simp
  simp[Stt.enc,Stt.ptr,-List.any_eq_true] at ih h e86 ht
  have hw:IntKind.i64.wrap (↑pre.length+1)=↑pre.length+1:=am (by omega) (by omega)
  have hlt:(pre.length:Int)<pre.length+(r.length+1):=by omega
  have hz:fP 3 (List.map Stt.enc pre++CV.agg [.str x.name,.str x.nation,ci x.seed]::List.map Stt.enc r)=true:=by cases pre<;>rfl
  have hb:(pre.length:Int)≤pre.length+(r.length+1):=by omega
  have hE:aL stE pre (x::r)=if stE pre x≠0 then stE pre x else aL stE (pre++[x]) r:=rfl
  have hS:aq [av (!isName x.name) 8,av (pre.any (Stt.is x.name)) 9,av (!isName x.nation) 8,av (aF x.seed 0 999999999) 3]=stE pre x:=rfl
  rw[hE,IM]
  by_cases h0:stE pre x=0
  ·refine⟨H,?_⟩
   simp[jt,hw,hlt,hz,hb,ht,Stt.enc,e86,e90a,e90b,hS,h0,ih,-List.any_eq_true]
  ·refine⟨[XB x 0,.dead],?_⟩
   simp[jt,hw,hlt,hz,hb,ht,Stt.enc,e86,e90a,e90b,hS,h0,XB,-List.any_eq_true]
theorem S66 (l:List Stt) (hl:∀ x ∈ l,x.ok) (h:(l.length:Int)<9223372036854775807):fn P 66 [.slice (l.map Stt.enc)]=some (ci (bm l)):=by
 obtain⟨H,hL⟩:=L66 (P:=P) l [] hl (by simpa using h)
 simp at hL
 rw[u66]
 unfold bm
 by_cases hm:(l.length:Int) > 160
 ·have hm' : (160:Int)<(l.length:Int):=hm
  simp[c66,hm']
 ·have hm' : ¬ (160:Int)<(l.length:Int):=hm
  simp[c66,hm',hL]
  by_cases h0:aL stE [] l=0<;>simp[h0]
def Stt.short (x:Stt):Bool:=decide (x.name.length≤40) && decide (x.nation.length≤40)
theorem L15:∀ (r pre:List Stt),((pre++r).length:Int)<9223372036854775807 →
  ac P (af P) qT ⟨[.c (.slice ((pre++r).map Stt.enc)),.c (ci pre.length)],[]⟩=if r.all Stt.short then some (.exit 0,⟨[],[]⟩) else some (.ret,⟨[.c (.bool false)],[]⟩):=by
 intro r
 induction r with
 | nil =>
  intro pre h
  rw[Hq]
  simp[lO]
 | cons x r ih =>
  intro pre h
  have ih:=ih (pre++[x]) (by simpa using h)
  simp[Stt.enc,-List.all_eq_true] at ih h
  have hw:IntKind.i64.wrap (↑pre.length+1)=↑pre.length+1:=am (by omega) (by omega)
  have hlt:(pre.length:Int)<pre.length+(r.length+1):=by omega
  have e:x.short=(decide (x.name.length≤40) && decide (x.nation.length≤40)):=rfl
  have q1:(40:Int)<x.name.length↔¬ x.name.length≤40:=by omega
  have q2:(40:Int)<x.nation.length↔¬ x.nation.length≤40:=by omega
  rw[Hq]
  by_cases h1:x.name.length≤40<;>by_cases h2:x.nation.length≤40<;>simp[lO,hw,hlt,Stt.enc,e,q1,q2,h1,h2,ih,-List.all_eq_true,-Nat.not_le]
def pg (l:List Stt) (n:Int):Bool:=!((decide ((l.length:Int) > n) && decide ((l.length:Int)≤160)) || decide ((l.length:Int) > 162)) && l.all Stt.short
theorem S15 (l:List Stt) (n:Int) (h:(l.length:Int)<9223372036854775807):fn P 15 [.slice (l.map Stt.enc),ci n]=some (.bool (pg l n)):=by
 have hl:=L15 (P:=P) l [] (by simpa using h)
 simp[-List.all_eq_true] at hl
 rw[u15]
 unfold pg
 by_cases h1:n<(l.length:Int)<;>by_cases h2:(l.length:Int)≤160<;>by_cases h3:(162:Int)<l.length<;>cases h0:l.all Stt.short<;>rw[h0] at hl<;>simp[c15,h1,h2,h3,hl]
theorem YP (X:List Stt) (x:Stt):∀ (r pre rest:List Stt),X=pre++r++x::rest→(X.length:Int)<9223372036854775807 →
  ac P (af P) zF ⟨[.c (.slice (X.map Stt.enc)),.c (ci (pre++r).length),.c (ci pre.length)],[]⟩=if r.any (Stt.is x.name) then some (.ret,⟨[.c (ci 9)],[]⟩) else some (.exit 2,⟨[.c (.slice (X.map Stt.enc)),.c (ci (pre++r).length)],[]⟩):=by
 intro r
 induction r with
 | nil =>
  intro pre rest hX h
  rw[KF]
  simp[jq]
 | cons y r ih =>
  intro pre rest hX h
  have ih:=ih (pre++[y]) rest (by simp[hX]) h
  subst hX
  simp[Stt.enc,-List.any_eq_true] at ih h
  have hw:IntKind.i64.wrap (↑pre.length+1)=↑pre.length+1:=am (by omega) (by omega)
  have hlt:(pre.length:Int)<pre.length+(r.length+1):=by omega
  have k1:(pre.length:Int)<pre.length+(r.length+(rest.length+1)+1):=by omega
  have k2:(pre.length:Int)+(r.length+1)<pre.length+(r.length+(rest.length+1)+1):=by omega
  have t1:((pre.length:Int)+(r.length+1)).toNat=pre.length+(r.length+1):=by omega
  have j2:0≤(pre.length:Int)+(r.length+1):=by omega
  have hu:Stt.is x.name y=decide (y.name=x.name):=by by_cases q:y.name=x.name<;>simp[Stt.is,q]
  rw[KF]
  by_cases h0:y.name=x.name
  ·simp[jq,hw,hlt,k1,k2,t1,j2,Stt.enc,hu,h0,-List.any_eq_true]
  ·simp[jq,hw,hlt,k1,k2,t1,j2,Stt.enc,hu,h0,ih,-List.any_eq_true]
theorem Y1:∀ (r pre:List Stt),((pre++r).length:Int)<9223372036854775807 →
  ac P (af P) qK ⟨[.c (.slice ((pre++r).map Stt.enc)),.c (ci pre.length)],[]⟩=if aL stE pre r=0 then some (.exit 0,⟨[],[]⟩) else some (.ret,⟨[.c (ci (aL stE pre r))],[]⟩):=by
 intro r
 induction r with
 | nil =>
  intro pre h
  rw[I0]
  simp[fA,aL]
 | cons x r ih =>
  intro pre h
  have ih:=ih (pre++[x]) (by simpa using h)
  have h0:=YP (P:=P) (pre++x::r) x pre [] r (by simp) h
  simp[Stt.enc,-List.any_eq_true] at ih h h0
  have hw:IntKind.i64.wrap (↑pre.length+1)=↑pre.length+1:=am (by omega) (by omega)
  have hlt:(pre.length:Int)<pre.length+(r.length+1):=by omega
  have hE:aL stE pre (x::r)=if stE pre x≠0 then stE pre x else aL stE (pre++[x]) r:=rfl
  have hS:stE pre x=aq [av (!isName x.name) 8,av (pre.any (Stt.is x.name)) 9,av (!isName x.nation) 8,av (aF x.seed 0 999999999) 3]:=rfl
  rw[hE,I0]
  cases q1:isName x.name
  ·simp[fA,hw,hlt,Stt.enc,hS,q1,av,aq]
  ·cases q2:pre.any (Stt.is x.name)
   ·rw[q2] at h0
    cases q3:isName x.nation
    ·simp[fA,hw,hlt,Stt.enc,hS,q1,q2,q3,h0,av,aq]
    ·cases q4:aF x.seed 0 999999999
     ·simp[fA,hw,hlt,Stt.enc,hS,q1,q2,q3,q4,h0,av,aq,ih]
     ·simp[fA,hw,hlt,Stt.enc,hS,q1,q2,q3,q4,h0,av,aq]
   ·rw[q2] at h0
    simp[fA,hw,hlt,Stt.enc,hS,q1,q2,h0,av,aq]
theorem S16 (l:List Stt) (h:(l.length:Int)<9223372036854775807):fn P 16 [.slice (l.map Stt.enc)]=some (ci (bm l)):=by
 have hL:=Y1 (P:=P) l [] (by simpa using h)
 simp at hL
 rw[u16]
 unfold bm
 by_cases hm:(l.length:Int) > 160
 ·have hm' : (160:Int)<(l.length:Int):=hm
  simp[c16,hm']
 ·have hm' : ¬ (160:Int)<(l.length:Int):=hm
  simp[c16,hm',hL]
  by_cases h0:aL stE [] l=0<;>simp[h0]
end LM.GZ.J
namespace LM.GZ
open Go LM J
variable {P:Nat→Option SFunc} [Has P]
theorem Z4 (A:List Stt) (hA:A.length*40≤2^47):∀ (l pre:List Stt),A=pre++l →
  ac P (af P) Gq ⟨[.c (.slice (A.map Stt.enc)),.slice 0 (1+pre.length) 0 pre.length (some 3) none,.c (ci A.length),.c (ci pre.length)],[.cells (1+pre.length) (cellsOf (pre.map Stt.enc)) 0]⟩
   = some (.exit 0,⟨[.c (.slice (A.map Stt.enc)),.slice 0 (1+A.length) 0 A.length (some 3) none],[.cells (1+A.length) (cellsOf (A.map Stt.enc)) 0]⟩):=by
 intro l
 induction l with
 | nil =>
  intro pre h
  have h:A=pre:=by simpa using h
  subst h
  rw[Pe]
  simp[nj]
 | cons x l ih =>
  intro pre h
  have ih:=ih (pre++[x]) (by simp[h])
  have gx:A[pre.length]? = some x:=by rw[h]; simp
  obtain⟨hpl,gx'⟩:=List.getElem?_eq_some_iff.1 gx
  have hw:IntKind.i64.wrap ((pre.length:Int)+1)=(pre.length:Int)+1:=am (by omega) (by omega)
  have hlt:(pre.length:Int)<A.length:=by omega
  have ha:=gN (b:=0) (g:=1+pre.length) (bytes:=40) (e:=some 3) (ys:=pre.map Stt.enc) (xs:=[x.enc]) (h:=[.cells (1+pre.length) (cellsOf (pre.map Stt.enc)) 0]) (len:=pre.length) (fz:=0) rfl (Stt.elems _) (by intro y hy; simp at hy; rw[hy]; exact x.elem) (by simp) (Nat.zero_le _) (by simp) (by simp; omega) (by simp; omega)
  have e1:1+(pre.length+1)=1+pre.length+1:=by omega
  have hu:=bx 1 (pre.map Stt.enc++[x.enc])
  simp only[List.map_append,List.map_cons,List.map_nil,List.length_append,List.length_cons,List.length_nil] at ih ha hu
  generalize pre.map Stt.enc=D at *
  simp[e1] at ih ha hu
  simp only[Stt.enc] at ih ha hu
  rw[Pe]
  simp[nj,hlt,hpl,gx,gx',Stt.enc,ha,hw,hu,ih]
end LM.GZ
namespace LM.GZ
def leR:CRn:=⟨.lead,3,1000⟩
def df:Nat→List Nat→List CEn
 | _,[]=>[]
 | i,k::o=>⟨k,.start,0,2000*i⟩::⟨k,.fall,0,2000*i+700⟩::df (i+1) o
def leW:CCl:=⟨.waiting,.fine,0,0,0,0,false,false,false,[],[]⟩
def leO (i:Nat):CCl:=⟨.on,.fine,0,2000*i,0,0,false,false,false,[],[]⟩
def leD (i:Nat):CCl:=⟨.done,.fine,0,2000*i,700,0,false,false,false,[],[]⟩
theorem Qk {cs:List CCl} (h:∀ c ∈ cs,c.ph≠.on) (e:CEn):fx leR cs e=true:=by
 unfold fx
 rw[List.all_eq_true]
 intro i hi
 have hl:=List.mem_range.1 hi
 have:dq leR (cs.getD i clZ) e.val=false:=by
  have hm:cs.getD i clZ ∈ cs:=by
   rw[List.getD_eq_getElem?_getD,List.getElem?_eq_getElem hl]
   exact List.getElem_mem hl
  have h2:=h _ hm
  unfold dq
  rw[decide_eq_false h2]
  rfl
 rw[this]
 simp
theorem Ml {s:CSs} {i k:Nat} (ht:s.time≤2000*i) (hn:∀ c ∈ s.cls,c.ph≠.on) (hk:s.cls[k]? = some leW):c6 leR s ⟨k,.start,0,2000*i⟩=0:=by
 have hg:s.cls.getD k clZ=leW:=by rw[List.getD_eq_getElem?_getD,hk]; rfl
 have hf:=Qk hn ⟨k,.start,0,2000*i⟩
 unfold c6 kb
 simp only[hg,hf]
 simp[ht,leW,kindIn,suitsB,leR,readyB,cx]
theorem Yh {s:CSs} {i k:Nat} (hk:s.cls[k]? = some leW):dM leR s ⟨k,.start,0,2000*i⟩=⟨2000*i,s.cls.set k (leO i)⟩:=by
 have hg:s.cls.getD k clZ=leW:=by rw[List.getD_eq_getElem?_getD,hk]; rfl
 unfold dM
 simp only[hg]
 rfl
theorem PD {cs:List CCl} {i k:Nat} (hk:cs[k]? = some (leO i)):c6 leR ⟨2000*i,cs⟩ ⟨k,.fall,0,2000*i+700⟩=0:=by
 have hg:cs.getD k clZ=leO i:=by rw[List.getD_eq_getElem?_getD,hk]; rfl
 have ht:(2000*(i:Int))≤2000*i+700:=by omega
 unfold c6 kb
 simp only[hg]
 simp[ht,leO,kindIn,leR,readyB,cx]
theorem Xg {cs:List CCl} {i k:Nat} (hk:cs[k]? = some (leO i)):dM leR ⟨2000*i,cs⟩ ⟨k,.fall,0,2000*i+700⟩=⟨2000*i+700,cs.set k (leD i)⟩:=by
 have hg:cs.getD k clZ=leO i:=by rw[List.getD_eq_getElem?_getD,hk]; rfl
 have hm:min (2000*(i:Int)+700-2000*i) 1000=700:=by omega
 unfold dM
 simp only[hg]
 have:doC leR ⟨k,.fall,0,2000*i+700⟩ (leO i)=leD i:=by
  simp only[doC,leR,fU,CCl.off,leO,leD,hm]
 rw[this]
theorem Ia:∀ (o:List Nat) (i n:Nat) (s:CSs),s.time≤2000*i→(∀ c ∈ s.cls,c.ph≠.on)→o.Nodup→(∀ k ∈ o,s.cls[k]? = some leW) →
  dE leR n s (df i o)=[]∧(bZ leR s (df i o)).cls.length=s.cls.length∧∀ k c,(bZ leR s (df i o)).cls[k]? = some c→(k ∈ o→c.ph=.done)∧(k ∉ o→s.cls[k]? = some c)
 | [],i,n,s,_,_,_,_=>⟨rfl,rfl,fun k c h=>⟨fun q=>(List.not_mem_nil q).elim,fun _=>h⟩⟩
 | k::o,i,n,s,ht,hn,hd,hk=>by
  have gk:=hk k (by simp)
  have hkl:=(List.getElem?_eq_some_iff.1 gk).1
  have g2:(s.cls.set k (leO i))[k]? = some (leO i):=List.getElem?_set_self hkl
  obtain⟨d1,d2⟩:=List.nodup_cons.1 hd
  have hset:(s.cls.set k (leO i)).set k (leD i)=s.cls.set k (leD i):=List.set_set ..
  have ih:=Ia o (i+1) (n+1+1) ⟨2000*i+700,s.cls.set k (leD i)⟩ (by show (2000*(i:Int)+700)≤2000*((i+1:Nat):Int); omega) (fun c hc=>by
   rcases List.mem_or_eq_of_mem_set hc with h | h
   ·exact hn c h
   ·rw[h]; intro q; cases q) d2 (fun j hj=>by
   show (s.cls.set k (leD i))[j]? = _
   rw[List.getElem?_set_ne (by rintro rfl; exact d1 hj)]
   exact hk j (by simp[hj]))
  obtain⟨i1,i2,i3⟩:=ih
  have e1:=Ml (i:=i) ht hn gk
  have e2:=Yh (i:=i) gk
  have e3:=PD g2
  have e4:=Xg g2
  rw[hset] at e4
  have er:bZ leR s (df i (k::o))=bZ leR ⟨2000*i+700,s.cls.set k (leD i)⟩ (df (i+1) o):=by
   simp only[bZ,df,List.foldl_cons,oo,e1,e2,e3,e4,if_true]
  refine⟨?_,?_,?_⟩
  ·simp only[df,dE,e1,e2,e3,e4,if_true]
   exact i1
  ·rw[er,i2]
   simp
  ·rw[er]
   intro j c hj
   obtain⟨j1,j2⟩:=i3 j c hj
   refine⟨fun hm=>?_,fun hm=>?_⟩
   ·rcases List.mem_cons.1 hm with rfl | hm
    ·have:=j2 d1
     simp only[List.getElem?_set_self hkl,Option.some.injEq] at this
     rw[← this]
     rfl
    ·exact j1 hm
   ·have h1:j≠k:=fun e=>hm (by simp[e])
    have h2:j ∉ o:=fun e=>hm (by simp[e])
    have:=j2 h2
    simp only[List.getElem?_set_ne (Ne.symm h1)] at this
    exact this
theorem Us {o:List Nat} {n:Nat} (ho:o.Perm (List.range n)):dE leR 1 (bo leR n) (df 0 o)=[]∧∀ c ∈ (bZ leR (bo leR n) (df 0 o)).cls,c.ph=.done:=by
 have hs:(bo leR n).cls=List.replicate n leW:=rfl
 obtain⟨h1,h2,h3⟩:=Ia o 0 1 (bo leR n) (by show (0:Int)≤_; omega) (fun c hc=>by
  rw[hs] at hc
  rw[List.eq_of_mem_replicate hc]
  decide) (ho.nodup_iff.2 List.nodup_range) (fun k hk=>by
  have:=List.mem_range.1 (ho.mem_iff.1 hk)
  rw[hs,List.getElem?_replicate,if_pos this])
 refine⟨h1,fun c hc=>?_⟩
 obtain⟨k,hk⟩:=List.mem_iff_getElem?.1 hc
 have hkl:=(List.getElem?_eq_some_iff.1 hk).1
 rw[h2,hs,List.length_replicate] at hkl
 exact (h3 k c hk).1 (ho.mem_iff.2 (List.mem_range.2 hkl))
end LM.GZ
namespace LM.GZ
def bL:Nat→List (List Int)
 | 0=>[[]]
 | n+1=>(bL n).flatMap fun l=>(List.range (n+1)).map fun a=>l.take a++((n:Int)::l.drop a)
theorem ww (n:Nat):bi (n+1)=bi n++[(n:Int)]:=by simp[bi,List.range_succ]
theorem uN (n:Nat):(bi n).length=n:=by simp[bi]
theorem kD:∀ (n:Nat) (o:List Int),o ∈ bL n→o.Perm (bi n)
 | 0,o,h=>by
  simp[bL] at h
  subst h
  exact List.Perm.refl _
 | n+1,o,h=>by
  rw[bL,List.mem_flatMap] at h
  obtain⟨l,hl,h⟩:=h
  obtain⟨a,_,rfl⟩:=List.mem_map.1 h
  have ih:=kD n l hl
  rw[ww]
  have h1:(l.take a++((n:Int)::l.drop a)).Perm ((n:Int)::(l.take a++l.drop a)):=List.perm_middle
  rw[List.take_append_drop] at h1
  have h2:(bi n++[(n:Int)]).Perm ((n:Int)::bi n):=List.perm_append_comm
  exact (h1.trans (ih.cons _)).trans h2.symm
theorem A2:∀ (n:Nat) (o:List Int),o.Perm (bi n)→o ∈ bL n
 | 0,o,h=>by
  have:o=[]:=List.Perm.eq_nil h
  subst this
  simp[bL]
 | n+1,o,h=>by
  rw[ww] at h
  have hm:(n:Int) ∈ o:=h.mem_iff.2 (by simp)
  obtain⟨s,t,rfl⟩:=List.append_of_mem hm
  have h1:((n:Int)::(s++t)).Perm ((n:Int)::bi n):=(List.perm_middle.symm.trans h).trans List.perm_append_comm
  have h2:(s++t).Perm (bi n):=h1.cons_inv
  have ih:=A2 n _ h2
  have hl:=h2.length_eq
  rw[uN,List.length_append] at hl
  rw[bL,List.mem_flatMap]
  refine⟨s++t,ih,?_⟩
  rw[List.mem_map]
  exact⟨s.length,List.mem_range.2 (by omega),by simp⟩
theorem MA {n:Nat} {o:List Int} (h:o ∈ bL n):o.length=n:=by rw[(kD n o h).length_eq,uN]
theorem qd {α β:Type} (f:α→List β) (k:Nat) (h:∀ x,(f x).length=k):∀ l:List α,(l.flatMap f).length=l.length*k
 | []=>by simp
 | a::l=>by rw[List.flatMap_cons,List.length_append,h,qd f k h l,List.length_cons,Nat.succ_mul]; omega
theorem dt (n:Nat):(bL (n+1)).length=(bL n).length*(n+1):=by
 rw[bL]
 exact qd _ _ (fun l=>by simp) _
theorem mi {n:Nat} (h:n≤5):(bL n).length<1000:=by
 have h0:(bL 0).length=1:=rfl
 have h1:=dt 0
 have h2:=dt 1
 have h3:=dt 2
 have h4:=dt 3
 have h5:=dt 4
 simp only[Nat.zero_add,Nat.reduceAdd] at h1 h2 h3 h4 h5
 have:n=0∨n=1∨n=2∨n=3∨n=4∨n=5:=by omega
 rcases this with rfl | rfl | rfl | rfl | rfl | rfl<;>omega
end LM.GZ
namespace LM.GZ.J
open Go LM
variable {P:Nat→Option SFunc} [Has P]
variable {α:Type} {enc:α→CV} {f:Nat} {B:List CV} {c:α→α→Int} {H:Heap} {b g:Nat} {cp:Option Nat}
def bs (p:Nat→Bool):Nat→Nat→Nat→Nat
 | 0,i,_=>i
 | k+1,i,j=>if i<j then if p ((i+j) / 2) then bs p k ((i+j) / 2+1) j else bs p k i ((i+j) / 2) else i
end LM.GZ.J
namespace LM.GZ.J
open Go LM
variable {P:Nat→Option SFunc} [Has P]
def mI (a b:Int):Int:=if a<b then -1 else if b<a then 1 else 0
theorem Mp (a b:Int):mI a b<0↔a<b:=by unfold mI; (repeat' split)<;>omega
theorem Ug (a b:Int):fn P 60 [ci a,ci b]=some (ci (mI a b)):=by
 have e:∀ x:Int,fn P 133 [ci x]=some (.bool false):=fun x=>by rw[ach]; simp[OH]
 rw[u60]
 unfold mI
 by_cases h1:a<b<;>by_cases h2:b<a<;>simp[c60,e,h1,h2]
def eF (n:Nat) (i:Fin n):CV:=ci (i.val:Int)
theorem O7 (n:Nat):CellOk (eF n):=fun _=>⟨rfl,rfl⟩
theorem LN {n:Nat}:∀ {xs:List Int},(∀ x ∈ xs,0≤x∧x<n)→∃ F:List (Fin n),F.map (fun i=>(i.val:Int))=xs
 | [],_=>⟨[],rfl⟩
 | x::xs,h=>by
  obtain⟨F,hF⟩:=LN (xs:=xs) fun y hy=>h y (by simp[hy])
  have hx:=h x (by simp)
  refine⟨⟨x.toNat,by omega⟩::F,?_⟩
  simp[hF]
  omega
theorem qj {n:Nat} (F:List (Fin n)):cA (eF n) F=cI (F.map fun i=>(i.val:Int)):=by simp[cA,cI,eF]
end LM.GZ.J
namespace LM.GZ.J
open Go LM
variable {P:Nat→Option SFunc} [Has P]
theorem tJ (xs:List Int):aT (cI xs)=true:=by rw[← bk]; exact gH (dD xs)
theorem SD (pos:Option Nat) {b g:Nat} {ys xs:List Int} {h:Heap} (hb:h[b]? = some (.cells g (cI ys) 0)) (hs:ys.length+xs.length<1000000) :
  aN pos none 8 (.slice b g 0 ys.length none none) (.c (.slice (xs.map ci))) h=if xs=[] then some (.slice b g 0 ys.length none none,h) else some (.slice b (g+1) 0 (ys.length+xs.length) none none,h.set b (.cells (g+1) (cI (ys++xs)) 0)):=by
 have h1:aO none h (.c (.slice (xs.map ci)))=some ((xs.map ci).length,cellsOf (xs.map ci)):=rfl
 rw[bk,List.length_map] at h1
 have hz:ae none=1:=rfl
 simp only[aN,h1,tJ,hb,hz]
 rw[if_neg (by simp),if_neg (by simp[bJ]),if_neg (by simp; omega),if_pos (by simp[bJ])]
 by_cases hx:xs=[]
 ·subst hx; simp
 ·have:xs.length≠0:=fun e=>hx (List.eq_nil_of_length_eq_zero e)
  rw[if_neg this,if_neg hx]
  have:cI (ys++xs)=cI ys++cI xs:=by simp[cI]
  rw[this]
  rfl
end LM.GZ.J
namespace LM.GZ.J
open Go LM
variable {P:Nat→Option SFunc} [Has P]
def isI (a:Int) (x:Int):Bool:=decide (x=a)
theorem YB (a:Int):∀ (l pre:List Int),((pre++l).length:Int)<9223372036854775807 →
  ∃ k:Nat,ac P (af P) tL ⟨[.c (.slice ((pre++l).map ci)),.c (ci a),.c (ci (pre++l).length),.c (ci pre.length)],[]⟩=if l.any (isI a) then some (.ret,⟨[.c (ci k)],[]⟩) else some (.exit 0,⟨[],[]⟩):=by
 intro l
 induction l with
 | nil =>
  intro pre h
  refine⟨0,?_⟩
  rw[tB]
  simp[iw]
 | cons x r ih =>
  intro pre h
  obtain⟨k,ih⟩:=ih (pre++[x]) (by simpa using h)
  simp[-List.any_eq_true] at ih h
  have hw:IntKind.i64.wrap (↑pre.length+1)=↑pre.length+1:=am (by omega) (by omega)
  have hlt:(pre.length:Int)<pre.length+(r.length+1):=by omega
  have e:isI a x=decide (x=a):=rfl
  have ea:isI a a=true:=by simp[isI]
  by_cases h0:x=a
  ·refine⟨pre.length,?_⟩
   rw[tB]
   simp[iw,hw,hlt,e,ea,h0,-List.any_eq_true]
  ·have h0' : ¬ a=x:=fun q=>h0 q.symm
   refine⟨k,?_⟩
   rw[tB]
   simp[iw,hw,hlt,e,h0,h0',ih,-List.any_eq_true]
theorem S74 (l:List Int) (a:Int) (h:(l.length:Int)<9223372036854775807):fn P 74 [.slice (l.map ci),ci a]=some (.bool (l.any (isI a))):=by
 obtain⟨k,hL⟩:=YB (P:=P) a l [] (by simpa using h)
 simp[-List.any_eq_true] at hL
 have e112:fn P 143 [.slice (l.map ci),ci a]=some (ci (if l.any (isI a) then (k:Int) else -1)):=by
  rw[abn]
  cases h0:l.any (isI a)<;>rw[h0] at hL<;>simp[Mk,hL]
 rw[u74]
 cases h0:l.any (isI a)<;>rw[h0] at e112<;>simp[c74,e112]
def iC (pre:List Int) (x:Int):Int:=aq [av (aF x 0 999999999) 3,av (pre.any (isI x)) 9]
def qN (l:List Int):Int:=if (l.length:Int) > 160 then 5 else aL iC [] l
theorem L22:∀ (r pre:List Int),((pre++r).length:Int)<9223372036854775807 →
  ∃ H b1 g1 b2 g2,H[b1]? = some (.cells g1 [] 0)∧H[b2]? = some (.cells g2 [] 0)∧ac P (af P) zw ⟨[.c (.slice ((pre++r).map ci)),.c (.slice ((pre++r).map ci)),.c (ci (pre++r).length),.c (ci pre.length)],[.cells 1 [] 0,.cells 1 [] 0]⟩=if aL iC pre r=0 then some (.exit 0,⟨[.c (.slice ((pre++r).map ci))],[.cells 1 [] 0,.cells 1 [] 0]⟩) else some (.ret,⟨[.slice b1 g1 0 0 none none,.slice b2 g2 0 0 none none,.c (ci (aL iC pre r))],H⟩):=by
 intro r
 induction r with
 | nil =>
  intro pre h
  refine⟨[.cells 1 [] 0],0,1,0,1,rfl,rfl,?_⟩
  rw[y6]
  simp[ji,aL]
 | cons x r ih =>
  intro pre h
  obtain⟨H,b1,g1,b2,g2,k1,k2,ih⟩:=ih (pre++[x]) (by simpa using h)
  have e100:=S74 (P:=P) pre x (by simp at h; omega)
  have ht:List.take pre.length (List.map ci pre++ci x::List.map ci r)=pre.map ci:=by simp
  simp[-List.any_eq_true] at ih h
  have hw:IntKind.i64.wrap (↑pre.length+1)=↑pre.length+1:=am (by omega) (by omega)
  have hlt:(pre.length:Int)<pre.length+(r.length+1):=by omega
  have hz:fP 1 (List.map ci pre++ci x::List.map ci r)=true:=by cases pre<;>rfl
  have hb:(pre.length:Int)≤pre.length+(r.length+1):=by omega
  have hE:aL iC pre (x::r)=if iC pre x≠0 then iC pre x else aL iC (pre++[x]) r:=rfl
  have hS:aq [av (aF x 0 999999999) 3,av (pre.any (isI x)) 9]=iC pre x:=rfl
  by_cases h0:iC pre x=0
  ·refine⟨H,b1,g1,b2,g2,k1,k2,?_⟩
   rw[hE,y6]
   simp[ji,hw,hlt,hz,hb,ht,e100,hS,h0,ih,-List.any_eq_true]
  ·refine⟨[.cells 1 [] 0,.cells 1 [] 0,.dead,.cells 1 [] 0,.cells 1 [] 0],3,1,4,1,rfl,rfl,?_⟩
   rw[hE,y6]
   simp[ji,hw,hlt,hz,hb,ht,e100,hS,h0,-List.any_eq_true]
theorem GH (X:List Int) (h:X.length<1000000):dp none 8 [.slice (X.map ci)]=if X=[] then some (.emp,[]) else some (.slice 0 1 0 X.length none none,[.cells 1 (cI X) 0]):=by
 have e1:((X.map ci).flatMap CV.cells).map LV.c=cI X:=by rw[← bk]; rfl
 by_cases hx:X=[]
 ·subst hx; rfl
 ·have hn:X.length≠0:=fun e=>hx (List.eq_nil_of_length_eq_zero e)
  have hz:ae none=1:=rfl
  unfold dp
  simp only[e1,List.length_map,bJ,tJ,hz]
  rw[if_neg hn,if_neg (by simp; omega),if_neg hx]
theorem S76 (l:List Int) (k:Nat) (hk:k≤l.length) (hl:l.length<500000):fn P 76 [.slice (l.map ci),ci k]=some (.slice ((l.drop k++l.take k).map ci)):=by
 have h1:(k:Int)≤l.length:=by omega
 have hz:fP 1 (l.map ci)=true:=by cases l<;>rfl
 have e1:List.take k (l.map ci)=(l.take k).map ci:=by simp
 have e2:List.drop k (l.map ci)=(l.drop k).map ci:=by simp
 have hX:(l.take k).length<1000000:=by simp; omega
 have hYl:(l.drop k).length=l.length-k:=by simp
 have hxy:(l.take k).length+(l.drop k).length<1000000:=by simp; omega
 generalize l.take k=X at *
 generalize l.drop k=Y at *
 have e4:List.take (l.length-k) (Y.map ci)=Y.map ci:=List.take_of_length_le (by simp; omega)
 have cX1:=GH Y (by omega)
 rw[u76]
 by_cases y0:Y=[]
 ·subst y0
  have a3:aN (some 2) none 8 .emp (.c (.slice (X.map ci))) [.cells 1 [] 0,.dead,.dead]=if X=[] then some (.emp,[.cells 1 [] 0,.dead,.dead]) else some (.slice 2 1 0 X.length none none,[.cells 1 [] 0,.dead,.cells 1 (cI X) 0]):=by
   have q:aO none [.cells 1 [] 0,.dead,.dead] (.c (.slice (X.map ci)))=some ((X.map ci).length,cellsOf (X.map ci)):=rfl
   rw[bk,List.length_map] at q
   have hz:ae none=1:=rfl
   simp only[aN,q,tJ,hz]
   by_cases x0:X=[]
   ·subst x0; rfl
   ·have hn:X.length≠0:=fun e=>x0 (List.eq_nil_of_length_eq_zero e)
    rw[if_neg (by simp),if_neg (by simp[bJ]),if_neg hn,if_neg (by omega),if_neg x0]
    rfl
  simp at cX1
  by_cases x0:X=[]
  ·subst x0
   simp at a3
   have hre:dR (some LV.emp) [LB.cells 1 [] 0,.dead,.dead]=some (.slice []):=rfl
   simp[c76,h1,hz,e1,e2,cX1,GX,a3,hre,LV.shift,shiftL,bC,LB.shift,bI,bj]
  ·rw[if_neg x0] at a3
   have hr:=iV (b:=2) (g:=1) (fz:=0) (e:=none) (ys:=X.map ci) (h:=[.cells 1 [] 0,.dead,.cells 1 (cI X) 0]) (len:=X.length) (by rw[bk]; rfl) (dD _) (by simp) none
   simp[c76,h1,hz,e1,e2,cX1,GX,a3,hr,LV.shift,shiftL,bC,LB.shift,l5,bI,bj]
 ·rw[if_neg y0] at cX1
  have a3:=SD (some 2) (b:=1) (g:=1) (ys:=Y) (xs:=X) (h:=[.cells 1 [] 0,.cells 1 (cI Y) 0,.dead]) rfl (by omega)
  by_cases x0:X=[]
  ·subst x0
   have hr:=iV (b:=1) (g:=1) (fz:=0) (e:=none) (ys:=Y.map ci) (h:=[.cells 1 [] 0,.cells 1 (cI Y) 0,.dead]) (len:=Y.length) (by rw[bk]; rfl) (dD _) (by simp) none
   simp at a3
   simp[c76,h1,hz,e1,e2,e4,cX1,GX,a3,hr,LV.shift,shiftL,bC,LB.shift,l5,bI,bj]
  ·rw[if_neg x0] at a3
   have hr:=iV (b:=1) (g:=2) (fz:=0) (e:=none) (ys:=(Y++X).map ci) (h:=[.cells 1 [] 0,.cells 2 (cI (Y++X)) 0,.dead]) (len:=Y.length+X.length) (by rw[bk]; rfl) (dD _) (by simp) none
   simp at a3 hr
   simp[c76,h1,hz,e1,e2,e4,cX1,GX,a3,hr,LV.shift,shiftL,bC,LB.shift,l5,bI,bj]
def fF (l:List Int):List Int:=l.drop ((l.length+1) / 2)++l.take ((l.length+1) / 2)
theorem S22 (l:List Int) (h:(l.length:Int)<9223372036854775807):fn P 22 [.slice (l.map ci)]=some (.tuple (if qN l=0 then [.slice (l.map ci),.slice ((fF l).map ci),ci 0] else [.slice [],.slice [],ci (qN l)])):=by
 obtain⟨H,b1,g1,b2,g2,k1,k2,hL⟩:=L22 (P:=P) l [] (by simpa using h)
 simp at hL
 rw[u22]
 unfold qN
 by_cases hm:(l.length:Int) > 160
 ·have hm' : (160:Int)<(l.length:Int):=hm
  rw[if_neg (by rw[if_pos hm]; decide)]
  simp[c22,hm',dR,mkTuple]
 ·have hm' : ¬ (160:Int)<(l.length:Int):=hm
  rw[if_neg hm]
  by_cases h0:aL iC [] l=0
  ·rw[if_pos h0]
   rw[if_pos h0] at hL
   have t0:=S76 (P:=P) l 0 (by omega) (by omega)
   have t1:=S76 (P:=P) l ((l.length+1) / 2) (by omega) (by omega)
   have e2:l.drop ((l.length+1) / 2)++l.take ((l.length+1) / 2)=fF l:=rfl
   rw[e2] at t1
   have w1:IntKind.i64.wrap ((l.length:Int)+1)=(l.length:Int)+1:=am (by omega) (by omega)
   have w2:((l.length:Int)+1).tdiv 2=(((l.length+1) / 2:Nat):Int):=rfl
   have w3:IntKind.i64.wrap (((l.length+1) / 2:Nat):Int)=(((l.length+1) / 2:Nat):Int):=am (by omega) (by omega)
   generalize (l.length+1) / 2=q at *
   simp at t0 t1
   simp[c22,hm',hL,w1,w2,w3,t0,t1]
  ·rw[if_neg h0] at hL ⊢
   have hset:H.set b1 (.cells g1 [] 0)=H:=by
    obtain⟨q,e⟩:=List.getElem?_eq_some_iff.1 k1
    rw[← e]
    simp
   simp[c22,hm',hL,mkTuple,dR,k1,k2,hset]
end LM.GZ.J
namespace LM.GZ.J
open Go LM
variable {P:Nat→Option SFunc} [Has P]
def az (l:List Stt) (a:Int):Str:=match l[a.toNat]? with
 | some x=>x.nation
 | none=>[]
theorem z5 {l:List Stt} {a:Int} (ha:0≤a∧a<l.length):∃ x,l[a.toNat]? = some x∧x.nation=az l a:=by
 have e1:l[a.toNat]? = some l[a.toNat]:=List.getElem?_eq_getElem (by omega)
 refine⟨_,e1,?_⟩
 unfold az
 rw[e1]
def bR:List Str→Int
 | a::b::r=>(if b=a then 1 else 0)+bR (b::r)
 | _=>0
theorem i8:∀ l:List Str,0≤bR l∧bR l≤l.length
 | []=>by simp[bR]
 | [a]=>by simp[bR]
 | a::b::r=>by
  have:=i8 (b::r)
  simp only[bR,List.length_cons] at this ⊢
  split<;>omega
end LM.GZ.J
namespace LM.GZ.J
open Go LM
variable {P:Nat→Option SFunc} [Has P]
structure Pr where
 a:Int
 b:Int
def Pr.enc (x:Pr):CV:=.agg [ci x.a,ci x.b]
theorem Pr.elem (x:Pr):Elem (some 2) x.enc:=⟨_,rfl,rfl,by simp⟩
theorem Pr.elems (l:List Pr):∀ x ∈ l.map Pr.enc,Elem (some 2) x:=by
 intro x hx
 obtain⟨y,_,rfl⟩:=List.mem_map.1 hx
 exact y.elem
def nW (f e w:Int) (i:Nat):Pr:=⟨max 0 (f+i*e-w),f+i*e⟩
def bP (f e w:Int) (n:Nat):List Pr:=(List.range n).map (nW f e w)
theorem BZ (f e w:Int) (i:Nat):(bP f e w (i+1)).map Pr.enc=(bP f e w i).map Pr.enc++[(nW f e w i).enc]:=by
 unfold bP
 rw[List.range_succ,List.map_append,List.map_append]
 rfl
theorem L23 (n:Nat) (hn:n≤160) (f e w:Int) (hf:0≤f∧f≤86399999) (he:0≤e∧e≤86399999) (hw:0≤w∧w≤86399999):∀ (m i:Nat),i+m=n →
  ac P (af P) qA ⟨[.c (ci f),.c (ci e),.c (ci w),.slice 3 (1+i) 0 i (some 2) none,.c (ci n),.c (ci i)],[.cells 1 [] 0,.cells 1 [.c (ci w)] 0,.cells 1 [.c (ci w),.c (ci f),.c (ci e)] 0,.cells (1+i) (cellsOf ((bP f e w i).map Pr.enc)) 0]⟩ =
   some (.exit 0,⟨[.slice 3 (1+n) 0 n (some 2) none],[.cells 1 [] 0,.cells 1 [.c (ci w)] 0,.cells 1 [.c (ci w),.c (ci f),.c (ci e)] 0,.cells (1+n) (cellsOf ((bP f e w n).map Pr.enc)) 0]⟩):=by
 intro m
 induction m with
 | zero =>
  intro i h
  simp at h
  subst h
  rw[KU]
  simp[lG]
 | succ m ih =>
  intro i h
  have ih:=ih (i+1) (by omega)
  have hi:(0:Int)≤i:=by omega
  have hi2:(i:Int)≤160:=by omega
  have hm0:0≤(i:Int)*e:=Int.mul_nonneg hi he.1
  have hm1:(i:Int)*e≤160*86399999:=Int.mul_le_mul hi2 he.2 he.1 (by omega)
  have w1:IntKind.i64.wrap ((i:Int)*e)=i*e:=am (by omega) (by omega)
  have w2:IntKind.i64.wrap (f+i*e)=f+i*e:=am (by omega) (by omega)
  have w3:IntKind.i64.wrap (f+i*e-w)=f+i*e-w:=am (by omega) (by omega)
  have w4:IntKind.i64.wrap ((i:Int)+1)=i+1:=am (by omega) (by omega)
  have hlt:(i:Int)<n:=by omega
  have hmx:(if w<f+i*e then f+i*e-w else 0)=max 0 (f+i*e-w):=by split<;>omega
  have hl:(bP f e w i).length=i:=by simp[bP]
  have ha:=gN (b:=3) (g:=1+i) (bytes:=16) (e:=some 2) (ys:=(bP f e w i).map Pr.enc) (xs:=[(nW f e w i).enc]) (h:=[.cells 1 [] 0,.cells 1 [.c (ci w)] 0,.cells 1 [.c (ci w),.c (ci f),.c (ci e)] 0,.cells (1+i) (cellsOf ((bP f e w i).map Pr.enc)) 0]) (len:=i) (fz:=0) rfl (Pr.elems _) (by simpa using (nW f e w i).elem) (by simp[hl]) (Nat.zero_le _) (by simp) (by simp[hl]; omega) (by simp[hl]; omega)
  have e1:1+(i+1)=1+i+1:=by omega
  rw[← BZ] at ha
  simp[nW,Pr.enc] at ha
  simp[e1,Pr.enc] at ih
  have hu:∀ n ys,underL n (cellsOf ys)=true:=fun n ys=>bx n ys
  rw[KU]
  simp[lG,w1,w2,w3,w4,hlt,bt,hmx,ha,hu,Pr.enc,ih]
end LM.GZ.J
namespace LM.GZ.J
open Go LM
variable {P:Nat→Option SFunc} [Has P]
theorem uQ (e:Int) (r:List Int):aq (e::r)=0↔e=0∧aq r=0:=by
 rw[aq]
 by_cases h:e=0<;>simp[h]
theorem Dq {b:Bool} {e:Int} (he:e≠0):av b e=0↔b=false:=by
 unfold av
 cases b<;>simp[he]
theorem m7 {x a b:Int}:aF x a b=false↔a≤x∧x≤b:=by
 unfold aF
 by_cases h1:x<a<;>by_cases h2:x > b<;>simp[h1,h2]<;>omega
theorem xV {n f e:Int} {ts:List Int} (h:gh n f e ts=0):(0≤n∧n≤160)∧(∀ t ∈ ts,0≤t∧t≤86399999)∧(0≤f∧f≤86399999)∧(0≤e∧e≤86399999):=by
 unfold gh at h
 simp only[uQ,Dq (show (3:Int)≠0 by decide),m7] at h
 obtain⟨h1,h2,_⟩:=h
 rw[List.any_eq_false] at h2
 have key:∀ t ∈ ts++[f,e],0≤t∧t≤86399999:=fun t ht=>by
  have:=h2 t ht
  exact m7.1 (by simpa[AP] using this)
 exact⟨h1,fun t ht=>key t (by simp[ht]),key f (by simp),key e (by simp)⟩
theorem S23 (n f e w:Int):fn P 23 [ci n,ci f,ci e,ci w]=some (if gh n f e [w]=0 then .tuple [.slice ((bP f e w n.toNat).map Pr.enc),ci 0] else .tuple [.slice [],ci (gh n f e [w])]):=by
 have a:=YG (P:=P) n f e w
 rw[u23]
 by_cases h:gh n f e [w]=0
 ·obtain⟨hn,ht,hf,he⟩:=xV h
  have hw:=ht w (by simp)
  obtain⟨k,rfl⟩ : ∃ k:Nat,n=k:=⟨n.toNat,by omega⟩
  have hL:=L23 (P:=P) k (by omega) f e w hf he hw k 0 (by omega)
  have hl:(bP f e w k).length=k:=by simp[bP]
  have e0:bP f e w 0=[]:=rfl
  have hr:=lU (b:=3) (g:=1+k) (fz:=0) (e:=some 2) (ys:=(bP f e w k).map Pr.enc) (h:=[.cells 1 [] 0,.cells 1 [.c (ci w)] 0,.cells 1 [.c (ci w),.c (ci f),.c (ci e)] 0,.cells (1+k) (cellsOf ((bP f e w k).map Pr.enc)) 0]) (len:=k) rfl (Pr.elems _) (by simp[hl]) none (ci 0)
  have cX0:cellsOf []=[]:=rfl
  simp[e0,cX0] at hL
  simp[c23,a,ax,bA,cw,h,hL,hr]
 ·simp[c23,a,ax,bA,cw,h]
end LM.GZ.J
namespace LM.GZ.J
open Go LM
variable {P:Nat→Option SFunc} [Has P]
theorem ls {l:List Stt} (h:bm l=0):l.length≤160∧∀ x ∈ l,0≤x.seed∧x.seed≤999999999:=by
 unfold bm at h
 split at h
 ·cases h
 ·rename_i hl
  refine⟨by omega,?_⟩
  have key:∀ (r pre:List Stt),aL stE pre r=0→∀ x ∈ r,0≤x.seed∧x.seed≤999999999:=by
   intro r
   induction r with
   | nil=>simp
   | cons a r ih =>
    intro pre h x hx
    rw[aL] at h
    split at h
    ·rename_i q; exact absurd h q
    ·rename_i q
     rcases List.mem_cons.1 hx with rfl | hx
     ·have q:stE pre x=0:=by simpa using q
      unfold stE at q
      simp only[uQ,Dq (show (3:Int)≠0 by decide),m7] at q
      exact q.2.2.2.1
     ·exact ih _ h x hx
  exact key l [] h
end LM.GZ.J
namespace LM.GZ.J
open Go LM
variable {P:Nat→Option SFunc} [Has P]
def cq (n:Nat) (pre:List Int) (x:Int):Int:=aq [av (decide (x<0) || decide (x ≥ n)) 10,av (pre.any (isI x)) 9]
def fk (n:Nat) (o:List Int):Int:=if aL (cq n) [] o≠0 then aL (cq n) [] o else av (decide (o.length<n)) 7
theorem YU (l:List Stt) (hl:l.length<100000):∀ (r pre:List Int),((pre++r).length:Int)<9223372036854775807 →
  ∃ H,ac P (af P) z8 ⟨[.c (.slice (l.map Stt.enc)),.c (.slice ((pre++r).map ci)),.c (.slice ((pre++r).map ci)),.c (ci (pre++r).length),.c (ci pre.length)],[]⟩=if aL (cq l.length) pre r=0 then some (.exit 0,⟨[.c (.slice (l.map Stt.enc)),.c (.slice ((pre++r).map ci))],[]⟩) else some (.ret,⟨[.c (ci 0),.c (ci (aL (cq l.length) pre r))],H⟩):=by
 intro r
 induction r with
 | nil =>
  intro pre h
  refine⟨[],?_⟩
  rw[mH]
  simp[gg,aL]
 | cons x r ih =>
  intro pre h
  obtain⟨H,ih⟩:=ih (pre++[x]) (by simpa using h)
  have e100:=S74 (P:=P) pre x (by simp at h; omega)
  have ht:List.take pre.length (List.map ci pre++ci x::List.map ci r)=pre.map ci:=by simp
  simp[-List.any_eq_true] at ih h
  have hw:IntKind.i64.wrap (↑pre.length+1)=↑pre.length+1:=am (by omega) (by omega)
  have hlt:(pre.length:Int)<pre.length+(r.length+1):=by omega
  have hz:fP 1 (List.map ci pre++ci x::List.map ci r)=true:=by cases pre<;>rfl
  have hb:(pre.length:Int)≤pre.length+(r.length+1):=by omega
  have hE:aL (cq l.length) pre (x::r)=if cq l.length pre x≠0 then cq l.length pre x else aL (cq l.length) (pre++[x]) r:=rfl
  have hS:aq [av (decide (x<0) || decide (x ≥ (l.length:Int))) 10,av (pre.any (isI x)) 9]=cq l.length pre x:=rfl
  rw[hE]
  by_cases hx:x<0
  ·have hq:(decide (x<0) || decide (x ≥ (l.length:Int)))=true:=by simp[hx]
   have h0:cq l.length pre x=10:=by rw[← hS,hq]; rfl
   rw[hq] at hS
   rw[h0]
   refine⟨[.dead],?_⟩
   rw[mH]
   simp[gg,hw,hlt,hz,hb,ht,e100,hx,hS,h0,-List.any_eq_true]
  ·by_cases hx2:x ≥ (l.length:Int)
   ·have hq:(decide (x<0) || decide (x ≥ (l.length:Int)))=true:=by simp[hx2]
    have h0:cq l.length pre x=10:=by rw[← hS,hq]; rfl
    rw[hq] at hS
    rw[h0]
    refine⟨[.dead],?_⟩
    have hx2' : (l.length:Int)≤x:=hx2
    rw[mH]
    simp[gg,hw,hlt,hz,hb,ht,e100,hx,hx2',hS,h0,-List.any_eq_true]
   ·have hq:(decide (x<0) || decide (x ≥ (l.length:Int)))=false:=by simp; omega
    rw[hq] at hS
    have hx2' : ¬ (l.length:Int)≤x:=hx2
    by_cases h0:cq l.length pre x=0
    ·refine⟨H,?_⟩
     rw[mH]
     simp[gg,hw,hlt,hz,hb,ht,e100,hx,hx2',hS,h0,ih,-List.any_eq_true]
    ·refine⟨[.dead],?_⟩
     rw[mH]
     simp[gg,hw,hlt,hz,hb,ht,e100,hx,hx2',hS,h0,-List.any_eq_true]
theorem Yk (l:List Stt):∀ (r pre:List Int) (x:Int) (n:Int),(pre++x::r).length<1000→0≤n→n≤pre.length→(∀ y ∈ pre++x::r,0≤y∧y<l.length) →
  ac P (af P) m8 ⟨[.c (.slice (l.map Stt.enc)),.c (.slice ((pre++x::r).map ci)),.c (ci n),.c (ci (pre.length+1:Nat))],[]⟩=some (.exit 2,⟨[.c (ci (n+bR ((x::r).map (az l))))],[]⟩):=by
 intro r
 induction r with
 | nil =>
  intro pre x n h h0 h1 hr
  rw[A5]
  simp[gZ,bR]
 | cons y r ih =>
  intro pre x n h h0 h1 hr
  have hx:=hr x (by simp)
  have hy:=hr y (by simp)
  obtain⟨sx,gx,ex⟩:=z5 hx
  obtain⟨sy,gy,ey⟩:=z5 hy
  obtain⟨_,gx'⟩:=List.getElem?_eq_some_iff.1 gx
  obtain⟨_,gy'⟩:=List.getElem?_eq_some_iff.1 gy
  have ihA:=ih (pre++[x]) y (n+1) (by simpa using h) (by omega) (by simp; omega) (by simpa using hr)
  have ihB:=ih (pre++[x]) y n (by simpa using h) (by omega) (by simp; omega) (by simpa using hr)
  simp at ihA ihB h
  have hw:IntKind.i64.wrap ((pre.length:Int)+1+1)=(pre.length:Int)+1+1:=am (by omega) (by omega)
  have hw2:IntKind.i64.wrap (n+1)=n+1:=am (by omega) (by omega)
  have hw4:IntKind.i64.wrap (pre.length:Int)=pre.length:=am (by omega) (by omega)
  have hlt:(pre.length:Int)+1<pre.length+(r.length+1+1):=by omega
  have hlt2:(pre.length:Int)<pre.length+(r.length+1+1):=by omega
  have j3:0≤(pre.length:Int)+1:=by omega
  have hA:bR ((x::y::r).map (az l))=(if az l y=az l x then 1 else 0)+bR ((y::r).map (az l)):=rfl
  rw[hA,A5]
  by_cases hq:az l y=az l x
  ·simp[gZ,hw,hw2,hw4,hlt,hlt2,j3,gx',gy',hx,hy,Stt.enc,ex,ey,hq,ihA]
   omega
  ·simp[gZ,hw,hw2,hw4,hlt,hlt2,j3,gx',gy',hx,hy,Stt.enc,ex,ey,hq,ihB]
theorem qO {n:Nat}:∀ {r pre:List Int},aL (cq n) pre r=0→∀ y ∈ r,0≤y∧y<n
 | [],_,_=>by simp
 | a::r,pre,h=>by
  intro y hy
  rw[aL] at h
  split at h
  ·rename_i q; exact absurd h q
  ·rename_i q
   rcases List.mem_cons.1 hy with rfl | hy
   ·have q:cq n pre y=0:=by simpa using q
    unfold cq at q
    by_cases h1:y<0<;>by_cases h2:y ≥ (n:Int)<;>simp[aq,av,h1,h2] at q<;>omega
   ·exact qO h y hy
def fN (l:List Stt) (o:List Int):Int:=aq [bm l,fk l.length o]
theorem S21 (l:List Stt) (o:List Int) (hl:∀ x ∈ l,x.ok) (hs:(l.length:Int)<9223372036854775807) (ho:(o.length:Int)<9223372036854775807) (ho2:o.length<1000) :
  fn P 21 [.slice (l.map Stt.enc),.slice (o.map ci)]=some (.tuple [ci (if fN l o=0 then bR (o.map (az l)) else 0),ci (fN l o)]):=by
 have e19:=S66 (P:=P) l hl hs
 rw[u21]
 by_cases h1:bm l=0
 ·rw[h1] at e19
  have hll:=(ls h1).1
  have hN:fN l o=fk l.length o:=by unfold fN; rw[h1]; by_cases q:fk l.length o=0<;>simp[aq,q]
  rw[hN]
  obtain⟨H,hL⟩:=YU (P:=P) l (by omega) o [] (by simpa using ho)
  simp at hL
  by_cases h2:aL (cq l.length) [] o=0
  ·rw[if_pos h2] at hL
   have hO:fk l.length o=av (decide (o.length<l.length)) 7:=by unfold fk; rw[if_neg (by simpa using h2)]
   rw[hO]
   by_cases h3:o.length<l.length
   ·have h3' : (o.length:Int)<l.length:=by omega
    simp[c21,e19,hL,h3,h3',av]
   ·have h3' : ¬ (o.length:Int)<l.length:=by omega
    have hr:=qO h2
    have hL1:ac P (af P) m8 ⟨[.c (.slice (l.map Stt.enc)),.c (.slice (o.map ci)),.c (ci 0),.c (ci 1)],[]⟩=some (.exit 2,⟨[.c (ci (bR (o.map (az l))))],[]⟩):=by
     cases o with
     | nil =>
      rw[A5]
      simp[gZ,bR]
     | cons x r =>
      have h5:=Yk (P:=P) l r [] x 0 (by simpa using ho2) (by omega) (by simp) (by simpa using hr)
      simp at h5
      simpa using h5
    simp[c21,e19,hL,h3,h3',av,hL1]
  ·rw[if_neg h2] at hL
   have hO:fk l.length o=aL (cq l.length) [] o:=by unfold fk; rw[if_pos h2]
   rw[hO,if_neg h2]
   simp[c21,e19,hL]
 ·have hN:fN l o=bm l:=by unfold fN; rw[aq,if_pos h1]
  rw[hN,if_neg h1]
  simp[c21,e19,h1]
end LM.GZ.J
namespace LM.GZ.J
open Go LM
variable {P:Nat→Option SFunc} [Has P]
def cB (f:Nat→Bool) (n:Nat):List LV:=(List.range n).map fun k=>.c (.bool (f k))
theorem uS (f:Nat→Bool) (n:Nat):(cB f n).length=n:=by simp[cB]
theorem TU (f:Nat→Bool) {n k:Nat} (h:k<n):(cB f n)[k]? = some (.c (.bool (f k))):=by simp[cB,h]
theorem Xh (f:Nat→Bool) {n k:Nat} (b:Bool):(cB f n).set k (.c (.bool b))=cB (fun i=>if i=k then b else f i) n:=by
 unfold cB
 apply List.ext_getElem
 ·simp
 ·intro i h1 h2
  rw[List.getElem_set]
  by_cases e:k=i
  ·subst e; simp
  ·have e' : ¬ i=k:=fun q=>e q.symm
   simp[e,e']
theorem NT (n:Nat) (f:Nat→Bool) (m:Nat):underL n (cB f m)=true:=by
 have:cB f m=((List.range m).map fun k=>CV.bool (f k)).map LV.c:=by simp[cB]
 rw[this]
 exact jO n _
theorem L19 (n:Nat) (hn:n<100000):∀ (r pre:List Int),((pre++r).length:Int)<9223372036854775807 →
  ∃ H,ac P (af P) wX ⟨[.c (ci n),.c (.slice ((pre++r).map ci)),.slice 0 1 0 n none (some n),.c (ci pre.length)],[.cells 1 (cB (fun k=>pre.any (isI (k:Int))) n) 0]⟩=if aL (cq n) pre r=0 then some (.exit 0,⟨[.c (ci n),.c (.slice ((pre++r).map ci))],H⟩) else some (.ret,⟨[.c (ci (aL (cq n) pre r))],H⟩):=by
 intro r
 induction r with
 | nil =>
  intro pre h
  refine⟨[.cells 1 (cB (fun k=>pre.any (isI (k:Int))) n) 0],?_⟩
  rw[nu]
  simp[fI,aL]
 | cons x r ih =>
  intro pre h
  obtain⟨H,ih⟩:=ih (pre++[x]) (by simpa using h)
  simp[-List.any_eq_true] at ih h
  have hw:IntKind.i64.wrap (↑pre.length+1)=↑pre.length+1:=am (by omega) (by omega)
  have hlt:(pre.length:Int)<pre.length+(r.length+1):=by omega
  have hE:aL (cq n) pre (x::r)=if cq n pre x≠0 then cq n pre x else aL (cq n) (pre++[x]) r:=rfl
  have hS:cq n pre x=aq [av (decide (x<0) || decide (x ≥ (n:Int))) 10,av (pre.any (isI x)) 9]:=rfl
  rw[hE]
  by_cases hx:x<0
  ·have h0:cq n pre x=10:=by rw[hS]; simp[hx,aq,av]
   rw[h0]
   refine⟨[.cells 1 (cB (fun k=>pre.any (isI (k:Int))) n) 0],?_⟩
   rw[nu]
   simp[fI,hw,hlt,hx,-List.any_eq_true]
  ·by_cases hx2:x ≥ (n:Int)
   ·have h0:cq n pre x=10:=by rw[hS]; simp[hx2,aq,av]
    rw[h0]
    refine⟨[.cells 1 (cB (fun k=>pre.any (isI (k:Int))) n) 0],?_⟩
    have hx2' : (n:Int)≤x:=hx2
    rw[nu]
    simp[fI,hw,hlt,hx,hx2',-List.any_eq_true]
   ·have hx2' : ¬ (n:Int)≤x:=hx2
    have hx3:x<n:=by omega
    obtain⟨k,rfl⟩ : ∃ k:Nat,x=k:=⟨x.toNat,by omega⟩
    have hk:k<n:=by omega
    have hg:=TU (fun k=>pre.any (isI (k:Int))) hk
    have h0:cq n pre k=av (pre.any (isI (k:Int))) 9:=by
     rw[hS]
     have:(decide ((k:Int)<0) || decide ((k:Int) ≥ (n:Int)))=false:=by simp; omega
     rw[this]
     cases pre.any (isI (k:Int))<;>rfl
    have hset:(cB (fun k=>pre.any (isI (k:Int))) n).set k (.c (.bool true))=cB (fun i=>(pre++[(k:Int)]).any (isI (i:Int))) n:=by
     rw[Xh]
     congr 1
     funext i
     rw[List.any_append]
     by_cases e:i=k
     ·subst e; simp[isI]
     ·have:¬ (k:Int)=i:=by omega
      simp[e,isI,this]
    have hk1:k+1≤n:=by omega
    have hu:=fun m f=>NT m f n
    have hl:=fun f=>uS f n
    cases hq:pre.any (isI (k:Int))
    ·rw[hq] at h0 hg
     refine⟨H,?_⟩
     simp[av] at h0
     simp only[List.any_append,List.any_cons,List.any_nil,Bool.or_false] at hset
     simp[fI,-List.any_eq_true] at hset ⊢
     rw[nu]
     simp[fI,hw,hlt,hx,hx2',hx3,hg,h0,hset,hk1,hu,hl,ih,-List.any_eq_true]
    ·rw[hq] at h0 hg
     refine⟨[.cells 1 (cB (fun k=>pre.any (isI (k:Int))) n) 0],?_⟩
     simp[av] at h0
     rw[nu]
     simp[fI,hw,hlt,hx,hx2',hx3,hg,h0,-List.any_eq_true]
theorem S19 (n:Nat) (o:List Int) (hn:n<100000) (ho:(o.length:Int)<9223372036854775807):fn P 19 [ci n,.slice (o.map ci)]=some (ci (fk n o)):=by
 obtain⟨H,hL⟩:=L19 (P:=P) n hn o [] (by simpa using ho)
 have e0:(cB (fun k=>([]:List Int).any (isI (k:Int))) n)=List.replicate n (.c (.bool false)):=by
  unfold cB
  apply List.ext_getElem<;>simp
 rw[e0] at hL
 simp at hL
 rw[u19]
 unfold fk
 have k1:(n:Int)≤9223372036854775807:=by omega
 have k2:(n:Int)≤140737488355328:=by omega
 by_cases h0:aL (cq n) [] o=0
 ·rw[if_pos h0] at hL
  rw[if_neg (by simpa using h0)]
  by_cases h1:o.length<n
  ·simp[c19,k1,k2,hL,h1,av]
  ·simp[c19,k1,k2,hL,h1,av]
 ·rw[if_neg h0] at hL
  rw[if_pos h0]
  simp[c19,k1,k2,hL]
end LM.GZ.J
namespace LM.GZ.J
open Go LM
variable {P:Nat→Option SFunc} [Has P]
def cntS (s:Str) (l:List Stt):Int:=match l with
 | []=>0
 | x::r=>(if x.nation=s then 1 else 0)+cntS s r
theorem dQ (s:Str):∀ l:List Stt,0≤cntS s l∧cntS s l≤l.length
 | []=>by simp[cntS]
 | x::r=>by
  have:=dQ s r
  simp only[cntS,List.length_cons]
  split<;>omega
theorem oy (s:Str):∀ a b:List Stt,cntS s (a++b)=cntS s a+cntS s b
 | [],b=>by simp[cntS]
 | x::a,b=>by
  have:=oy s a b
  simp only[List.cons_append,cntS,this]
  omega
def pN (all:List Stt):List Stt→Int→Int
 | [],m=>m
 | x::r,m=>pN all r (max m (cntS x.nation all))
def fB (l:List Stt):Int:=pN l l 0
def kS (l:List Stt):Int:=max 0 (2*fB l-l.length-1)
end LM.GZ.J
namespace LM.GZ.J
open Go LM
variable {P:Nat→Option SFunc} [Has P]
abbrev Mi:=List (Str × Int)
def iKs (M:Mi):List CV:=M.map fun p=>CV.str p.1
def iVs (M:Mi):List LV:=M.map fun p=>.c (ci p.2)
def cM (k:Str):Mi→Option Nat
 | []=>none
 | p::r=>if k=p.1 then some 0 else (cM k r).map (·+1)
def iGet (k:Str):Mi→Int
 | []=>0
 | p::r=>if k=p.1 then p.2 else iGet k r
def fe (M:Mi) (k:Str) (v:Int):Mi:=match cM k M with
 | some i=>M.set i (k,v)
 | none=>M++[(k,v)]
theorem oX (k:Str):∀ M:Mi,aH (.one 1) (.str k) (iKs M)=some (cM k M)
 | []=>rfl
 | p::r=>by
  have ih:=oX k r
  unfold iKs at ih ⊢
  simp only[List.map_cons,aH]
  have e:eqK (.one 1) (.str k) (.str p.1)=some (decide (k=p.1)):=by by_cases h:k=p.1<;>simp[eqK,cP,db,eqS,h]
  rw[e,cM]
  by_cases h:k=p.1
  ·simp[h]
  ·simp only[h,decide_false,if_false]
   rw[ih]
   cases cM k r<;>rfl
theorem nq {k:Str}:∀ {M:Mi} {i:Nat},cM k M=some i→M[i]? = some (k,iGet k M)
 | [],_,h=>by simp[cM] at h
 | p::r,i,h=>by
  rw[cM] at h
  split at h
  ·rename_i hk
   simp at h
   subst h
   simp[iGet,hk]
  ·rename_i hk
   cases h2:cM k r with
   | none=>rw[h2] at h; simp at h
   | some i' =>
    rw[h2] at h
    simp at h
    subst h
    have:=nq h2
    simpa[iGet,hk] using this
theorem uM {k:Str}:∀ {M:Mi},cM k M=none→iGet k M=0
 | [],_=>rfl
 | p::r,h=>by
  rw[cM] at h
  split at h
  ·cases h
  ·rename_i hk
   cases h2:cM k r with
   | none=>rw[iGet,if_neg hk]; exact uM h2
   | some i'=>rw[h2] at h; simp at h
theorem ox (k k' : Str) (v:Int):∀ M:Mi,cM k M=none→iGet k' (M++[(k,v)])=if k'=k then v else iGet k' M
 | [],_=>by simp[iGet]
 | p::r,h=>by
  rw[cM] at h
  split at h
  ·cases h
  ·rename_i hk
   have h2:cM k r=none:=by
    cases h2:cM k r with
    | none=>rfl
    | some i=>rw[h2] at h; simp at h
   simp only[List.cons_append,iGet]
   by_cases e:k'=p.1
   ·rw[if_pos e,if_pos e,if_neg (fun q=>hk (by rw[← q,e]))]
   ·rw[if_neg e,if_neg e]
    exact ox k k' v r h2
theorem yE {k:Str} (k' : Str) (v:Int):∀ {M:Mi} {i:Nat},cM k M=some i→iGet k' (M.set i (k,v))=if k'=k then v else iGet k' M
 | [],_,h=>by simp[cM] at h
 | p::r,i,h=>by
  rw[cM] at h
  split at h
  ·rename_i hk
   simp at h
   subst h
   simp only[List.set_cons_zero,iGet]
   by_cases e:k'=k
   ·simp[e]
   ·have:¬ k'=p.1:=by rw[← hk]; exact e
    simp[e,this]
  ·rename_i hk
   cases h2:cM k r with
   | none=>rw[h2] at h; simp at h
   | some i' =>
    rw[h2] at h
    simp at h
    subst h
    have ih:=yE k' v h2
    simp only[List.set_cons_succ,iGet,ih]
    by_cases e:k'=p.1
    ·have:¬ k'=k:=fun q=>hk (by rw[← q,e])
     simp[e,this]
     intro q
     exact absurd (q ▸ rfl) hk
    ·simp[e]
theorem ND (M:Mi) (k k' : Str) (v:Int):iGet k' (fe M k v)=if k'=k then v else iGet k' M:=by
 unfold fe
 cases h:cM k M with
 | some i=>exact yE k' v h
 | none=>exact ox k k' v M h
theorem R5 (M:Mi) (k:Str) (v:Int):iKs (fe M k v)=match cM k M with | some _=>iKs M | none=>iKs M++[.str k]:=by
 unfold fe
 cases h:cM k M with
 | none=>simp[iKs]
 | some i =>
  have hw:=nq h
  obtain⟨hi,hw⟩:=List.getElem?_eq_some_iff.1 hw
  simp only
  unfold iKs
  rw[List.map_set]
  apply List.ext_getElem
  ·simp
  ·intro j h1 h2
   rw[List.getElem_set]
   by_cases e:i=j
   ·subst e; simp[hw]
   ·simp[e]
theorem Qq (M:Mi) (k:Str) (v:Int):iVs (fe M k v)=match cM k M with | some i=>(iVs M).set i (.c (ci v)) | none=>iVs M++[.c (ci v)]:=by
 unfold fe
 cases h:cM k M with
 | none=>simp[iVs]
 | some i =>
  simp only
  unfold iVs
  rw[List.map_set]
theorem FG {M:Mi} {k:Str} {i:Nat} (h:cM k M=some i):(iVs M)[i]? = some (.c (ci (iGet k M))):=by
 have:=nq h
 simp[iVs,this]
theorem HD (n:Nat) (M:Mi):underL n (iVs M)=true:=by
 unfold iVs
 induction M with
 | nil=>rfl
 | cons p r ih=>simpa[underL,LV.under] using ih
theorem oh (k:Str) (M:Mi):(aH (.one 1) (.str k) (iKs M)=some none∧iGet k M=0)∨(∃ i,aH (.one 1) (.str k) (iKs M)=some (some i)∧(iVs M)[i]? = some (.c (ci (iGet k M)))):=by
 have hf:=oX k M
 cases ia:cM k M with
 | none=>rw[ia] at hf; exact .inl ⟨hf,uM ia⟩
 | some i=>rw[ia] at hf; exact .inr ⟨i,hf,FG ia⟩
theorem IP (k:Str) (v:Int) (M:Mi):(aH (.one 1) (.str k) (iKs M)=some none∧iKs M++[.str k]=iKs (fe M k v)∧iVs M++[.c (ci v)]=iVs (fe M k v))∨(∃ i,aH (.one 1) (.str k) (iKs M)=some (some i)∧iKs M=iKs (fe M k v)∧(iVs M).set i (.c (ci v))=iVs (fe M k v)∧i<(iVs M).length):=by
 have hf:=oX k M
 have h1:=R5 M k v
 have h2:=Qq M k v
 cases ia:cM k M with
 | none=>rw[ia] at hf h1 h2; exact .inl ⟨hf,h1.symm,h2.symm⟩
 | some i=>rw[ia] at hf h1 h2; exact .inr ⟨i,hf,h1.symm,h2.symm,(List.getElem?_eq_some_iff.1 (FG ia)).1⟩
end LM.GZ.J
namespace LM.GZ.J
open Go LM
variable {P:Nat→Option SFunc} [Has P]
def MI (M:Mi):LB:=.map (iKs M) (iVs M) false
def iVC (M:Mi):List CV:=M.map fun p=>ci p.2
theorem J7 (M:Mi):iVs M=(iVC M).map LV.c:=by simp[iVs,iVC]
theorem kB (s:Str) (pre:List Stt) (x:Stt):cntS s (pre++[x])=cntS s pre+(if x.nation=s then 1 else 0):=by rw[oy]; simp[cntS]
theorem Qs (x:Stt) (M:Mi) (b:Str) (l L I:CV) (hx:iGet x.nation M+1≤1000000∧0≤iGet x.nation M) :
  ac P (af P) nf ⟨[.map 0,.c (.str b),.ptr 1 0 0,.c l,.c L,.c I],[MI M,XB x 0]⟩=some (.normal,⟨[.map 0,.c (.str b),.ptr 1 0 0,.c l,.c L,.c I],[MI (fe M x.nation (iGet x.nation M+1)),XB x 0]⟩):=by
 have hk:∀ s,cP (.one 1) (CV.str s)=true:=fun _=>rfl
 have hw:IntKind.i64.wrap (iGet x.nation M+1)=iGet x.nation M+1:=am (by omega) (by omega)
 have hw1:IntKind.i64.wrap (0+1)=1:=rfl
 have hw2:IntKind.i64.wrap 1=1:=rfl
 obtain⟨nm,nt,sd⟩:=x
 simp only[XB,MI] at *
 rcases oh nt M with ⟨f1,e1⟩ | ⟨i,f1,e1⟩
 ·rw[e1]
  rcases IP nt (0+1) M with ⟨q1,q2,q3⟩ | ⟨j,q1,q2,q3,q4⟩
  ·simp at q2 q3
   simp[hk,f1,hw2,q2,q3]
  ·rw[q1] at f1; cases f1
 ·rcases IP nt (iGet nt M+1) M with ⟨q1,q2,q3⟩ | ⟨j,q1,q2,q3,q4⟩
  ·rw[q1] at f1; cases f1
  ·have:i=j:=by rw[q1] at f1; simpa using f1.symm
   subst this
   rw[← q2]
   obtain⟨_,e1'⟩:=List.getElem?_eq_some_iff.1 e1
   simp[hk,f1,e1',hw,q3,q4]
theorem R7 (x:Stt) (M:Mi) (b:Str) (l L I:CV) :
  ac P (af P) mZ ⟨[.map 0,.c (.str b),.ptr 1 0 0,.c l,.c L,.c I],[MI M,XB x 0]⟩=some (.normal,⟨[.map 0,.c (.str b),.ptr 1 0 0,.c l,.c L,.c I,.c (.bool (decide (iGet b M<iGet x.nation M)))],[MI M,XB x 0]⟩):=by
 have hk:∀ s,cP (.one 1) (CV.str s)=true:=fun _=>rfl
 obtain⟨nm,nt,sd⟩:=x
 simp only[XB,MI] at *
 rcases oh nt M with ⟨f1,e1⟩ | ⟨i,f1,e1⟩<;>rcases oh b M with ⟨f2,e2⟩ | ⟨j,f2,e2⟩
 ·simp[hk,f1,e1,f2,e2]
 ·obtain⟨_,e2'⟩:=List.getElem?_eq_some_iff.1 e2
  simp[hk,f1,e1,f2,e2,e2']
 ·obtain⟨_,e1'⟩:=List.getElem?_eq_some_iff.1 e1
  simp[hk,f1,e1,e1',f2,e2]
 ·obtain⟨_,e1'⟩:=List.getElem?_eq_some_iff.1 e1
  obtain⟨_,e2'⟩:=List.getElem?_eq_some_iff.1 e2
  simp[hk,f1,e1,e1',f2,e2,e2']
structure Great (l:List Stt) (M:Mi) (b:Str):Prop where
 cnt:∀ s,iGet s M=cntS s l
 top:∀ s,cntS s l≤cntS b l
theorem L67:∀ (r pre:List Stt) (M:Mi) (b:Str),(pre++r).length<1000→Great pre M b →
  ∃ M' b',Great (pre++r) M' b'∧ac P (af P) qX ⟨[.map 0,.c (.str b),.c (.slice ((pre++r).map Stt.enc)),.c (ci (pre++r).length),.c (ci pre.length)],[MI M]⟩=some (.exit 0,⟨[.map 0,.c (.str b')],[MI M']⟩):=by
 intro r
 induction r with
 | nil =>
  intro pre M b h hG
  refine⟨M,b,by simpa using hG,?_⟩
  rw[KG]
  simp[jB]
 | cons x r ih =>
  intro pre M b h hG
  have hc:=dQ x.nation pre
  have hx:iGet x.nation M+1≤1000000∧0≤iGet x.nation M:=by rw[hG.cnt]; simp at h; omega
  have sa:=Qs (P:=P) x M b
  have sb:=R7 (P:=P) x (fe M x.nation (iGet x.nation M+1)) b
  have hG' : Great (pre++[x]) (fe M x.nation (iGet x.nation M+1)) (if iGet x.nation (fe M x.nation (iGet x.nation M+1)) > iGet b (fe M x.nation (iGet x.nation M+1)) then x.nation else b):=by
   have hcnt:∀ s,iGet s (fe M x.nation (iGet x.nation M+1))=cntS s (pre++[x]):=by
    intro s
    rw[ND,kB,hG.cnt,hG.cnt]
    by_cases e:s=x.nation
    ·simp[e]
    ·have e' : ¬ x.nation=s:=fun q=>e q.symm
     simp[e,e']
   refine⟨hcnt,?_⟩
   intro s
   rw[hcnt,hcnt]
   have ht:=hG.top s
   have h1:=kB s pre x
   have h2:=kB b pre x
   have h3:=kB x.nation pre x
   rw[if_pos rfl] at h3
   split
   ·rename_i q
    by_cases e:x.nation=s
    ·rw[e]; omega
    ·rw[if_neg e] at h1
     split at h2<;>omega
   ·rename_i q
    by_cases e:x.nation=s
    ·rw[← e]; omega
    ·rw[if_neg e] at h1
     split at h2<;>omega
  have hx':=fun (l L I:CV)=>sa l L I hx
  generalize fe M x.nation (iGet x.nation M+1)=M1 at *
  obtain⟨M',b',g1,g2⟩:=ih (pre++[x]) M1 _ (by simpa using h) hG'
  refine⟨M',b',by simpa using g1,?_⟩
  simp[Stt.enc] at h
  have hw:IntKind.i64.wrap (↑pre.length+1)=↑pre.length+1:=am (by omega) (by omega)
  have hlt:(pre.length:Int)<pre.length+(r.length+1):=by omega
  have hXB:LB.cells 0 [.c (.str x.name),.c (.str x.nation),.c (ci x.seed)] 0=XB x 0:=rfl
  have hXB2:(some (XB x 0))=some (LB.cells 0 [.c (.str x.name),.c (.str x.nation),.c (ci x.seed)] 0):=rfl
  have hu:∀ n,bM n [MI M1]=true:=fun n=>by simp[MI,bM,LB.under,HD]
  rw[KG]
  by_cases q:iGet b M1<iGet x.nation M1
  ·rw[if_pos q] at g2
   simp[Stt.enc] at g2
   simp[jB,hw,hlt,Stt.enc,hXB,hXB2,hx',sb,hu,q,g2,-nf,-mZ]
  ·rw[if_neg q] at g2
   simp[Stt.enc] at g2
   simp[jB,hw,hlt,Stt.enc,hXB,hx',sb,hu,q,g2,-nf,-mZ]
end LM.GZ.J
namespace LM.GZ.J
open Go LM
variable {P:Nat→Option SFunc} [Has P]
def mEn (M:Mi):CV:=.map (iKs M) (iVC M)
theorem S67 (l:List Stt) (h:l.length<1000):∃ M b,Great l M b∧fn P 67 [.slice (l.map Stt.enc)]=some (.tuple [.str b,mEn M]):=by
 obtain⟨M,b,hG,hL⟩:=L67 (P:=P) l [] [] [] (by simpa using h) ⟨fun s=>by simp[iGet,cntS],fun s=>by simp[cntS]⟩
 have e0:MI []=.map [] [] false:=rfl
 rw[e0] at hL
 simp at hL hG
 refine⟨M,b,hG,?_⟩
 have hm:=fun h=>gM 37 (iVC M) h
 have hfz:frz 39 (.map 0) [.map (iKs M) ((iVC M).map LV.c) false]=some (mEn M,[.map (iKs M) ((iVC M).map LV.c) true]):=by
  have:=nl 38 0 [.map (iKs M) ((iVC M).map LV.c) false]
  simp only[List.getElem?_cons_zero,hm,ak] at this
  exact this
 rw[u67]
 simp[c67,hL,dR,mkTuple,MI,J7,hfz]
theorem lN (k:Str) (M:Mi):(aH (.one 1) (.str k) (iKs M)=some none∧iGet k M=0)∨(∃ i,aH (.one 1) (.str k) (iKs M)=some (some i)∧(iVC M)[i]? = some (ci (iGet k M))):=by
 rcases oh k M with h | ⟨i,h1,h2⟩
 ·exact .inl h
 ·refine .inr ⟨i,h1,?_⟩
  rw[J7,List.getElem?_map] at h2
  cases q:(iVC M)[i]? with
  | none=>rw[q] at h2; cases h2
  | some v=>rw[q] at h2; simpa using h2
theorem Great.most {l:List Stt} {M:Mi} {b:Str} (h:Great l M b):cntS b l=fB l:=by
 have key:∀ (r:List Stt) (m:Int),0≤m→m≤cntS b l→pN l r m≤cntS b l:=by
  intro r
  induction r with
  | nil=>intro m _ h1; exact h1
  | cons x r ih =>
   intro m h0 h1
   have:=h.top x.nation
   have:=dQ x.nation l
   exact ih _ (by omega) (by omega)
 have lo:∀ (r:List Stt) (m:Int),m≤pN l r m:=by
  intro r
  induction r with
  | nil=>intro m; exact Int.le_refl _
  | cons x r ih=>intro m; have:=ih (max m (cntS x.nation l)); simp only[pN]; omega
 have hi:∀ (r:List Stt) (m:Int) (x:Stt),x ∈ r→cntS x.nation l≤pN l r m:=by
  intro r
  induction r with
  | nil=>intro m x hx; cases hx
  | cons y r ih =>
   intro m x hx
   simp only[pN]
   rcases List.mem_cons.1 hx with rfl | hx
   ·have:=lo r (max m (cntS x.nation l)); omega
   ·exact ih _ x hx
 have hc:=dQ b l
 have h1:=key l 0 (by omega) (by omega)
 have h2:cntS b l≤fB l:=by
  by_cases hz:cntS b l=0
  ·have:=lo l 0; unfold fB; omega
  ·have:∃ x ∈ l,x.nation=b:=by
    by_cases hn:∃ x ∈ l,x.nation=b
    ·exact hn
    ·exfalso
     apply hz
     have:∀ r:List Stt,(∀ x ∈ r,¬ x.nation=b)→cntS b r=0:=by
      intro r
      induction r with
      | nil=>intro _; rfl
      | cons y r ih =>
       intro hy
       simp only[cntS]
       rw[if_neg (hy y (by simp)),ih (fun x hx=>hy x (by simp[hx]))]
       rfl
     exact this l (fun x hx q=>hn ⟨x,hx,q⟩)
   obtain⟨x,hx,rfl⟩:=this
   exact hi l 0 x hx
 unfold fB at *
 omega
theorem S18 (l:List Stt) (hl:∀ x ∈ l,x.ok) (hs:(l.length:Int)<9223372036854775807):fn P 18 [.slice (l.map Stt.enc)]=some (.tuple [ci (if bm l=0 then kS l else 0),ci (bm l)]):=by
 have e19:=S66 (P:=P) l hl hs
 rw[u18]
 by_cases h1:bm l=0
 ·rw[h1] at e19 ⊢
  have hll:=(ls h1).1
  obtain⟨M,b,hG,e102⟩:=S67 (P:=P) l (by omega)
  have hk:cP (.one 1) (CV.str b)=true:=rfl
  have hm:=hG.most
  have hgb:=hG.cnt b
  have hb:=dQ b l
  rw[hm] at hgb hb
  have w1:IntKind.i64.wrap (2*fB l)=2*fB l:=am (by omega) (by omega)
  have w2:IntKind.i64.wrap (2*fB l-l.length)=2*fB l-l.length:=am (by omega) (by omega)
  have w3:IntKind.i64.wrap (2*fB l-l.length-1)=2*fB l-l.length-1:=am (by omega) (by omega)
  have hf:(if 0<2*fB l-(l.length:Int)-1 then 2*fB l-(l.length:Int)-1 else 0)=kS l:=by unfold kS; split<;>omega
  have w0:IntKind.i64.wrap 0=0:=rfl
  rcases lN b M with ⟨f1,e1⟩ | ⟨i,f1,e1⟩
  ·rw[e1] at hgb
   rw[← hgb] at w1 w2 w3 hf
   simp at w2 w3 hf
   simp[c18,e19,e102,mEn,hk,f1,w0,w1,w2,w3,bt,hf]
  ·rw[hgb] at e1
   obtain⟨_,e1'⟩:=List.getElem?_eq_some_iff.1 e1
   simp[c18,e19,e102,mEn,hk,f1,e1,e1',w1,w2,w3,bt]
   unfold kS
   split<;>omega
 ·rw[if_neg h1]
  simp[c18,e19,h1]
end LM.GZ.J
namespace LM.GZ.J
open Go LM
variable {P:Nat→Option SFunc} [Has P]
theorem Ir:∀ x:Str,Op.bytesLess x x=false
 | []=>rfl
 | a::x=>by simp[Op.bytesLess,Ir x]
theorem Db:∀ x y:Str,Op.bytesLess x y=true→Op.bytesLess y x=false
 | [],[],h=>by simp[Op.bytesLess] at h
 | [],b::y,_=>rfl
 | a::x,[],h=>by simp[Op.bytesLess] at h
 | a::x,b::y,h=>by
  have ih:=Db x y
  simp only[Op.bytesLess,Bool.or_eq_true,Bool.and_eq_true,decide_eq_true_eq,beq_iff_eq,UInt8.lt_iff_toNat_lt] at h
  simp only[Op.bytesLess,Bool.or_eq_false_iff,decide_eq_false_iff_not,Bool.and_eq_false_iff,UInt8.lt_iff_toNat_lt]
  rcases h with h | ⟨rfl,h⟩
  ·refine⟨by omega,.inl ?_⟩
   simp only[beq_eq_false_iff_ne]
   intro q; subst q; omega
  ·exact⟨by omega,.inr (ih h)⟩
theorem zj:∀ x y:Str,Op.bytesLess x y=false→Op.bytesLess y x=false→x=y
 | [],[],_,_=>rfl
 | [],b::y,h,_=>by simp[Op.bytesLess] at h
 | a::x,[],_,h=>by simp[Op.bytesLess] at h
 | a::x,b::y,h1,h2=>by
  simp only[Op.bytesLess,Bool.or_eq_false_iff,decide_eq_false_iff_not,Bool.and_eq_false_iff,UInt8.lt_iff_toNat_lt,beq_eq_false_iff_ne] at h1 h2
  have e:a=b:=UInt8.toNat_inj.1 (by omega)
  subst e
  have e2:=zj x y (by simpa using h1.2) (by simpa using h2.2)
  rw[e2]
theorem ya:∀ x y z:Str,Op.bytesLess x z=true→Op.bytesLess x y=true∨Op.bytesLess y z=true
 | _,_,[],h=>by simp[Op.bytesLess] at h
 | [],[],c::z,_=>.inr rfl
 | [],b::y,c::z,_=>.inl rfl
 | a::x,[],c::z,_=>.inr rfl
 | a::x,b::y,c::z,h=>by
  have ih:=ya x y z
  simp only[Op.bytesLess,Bool.or_eq_true,Bool.and_eq_true,decide_eq_true_eq,beq_iff_eq,UInt8.lt_iff_toNat_lt] at h ⊢
  rcases h with h | ⟨rfl,h⟩
  ·by_cases h1:a.toNat<b.toNat
   ·exact .inl (.inl h1)
   ·exact .inr (.inl (by omega))
  ·by_cases h1:a.toNat<b.toNat
   ·exact .inl (.inl h1)
   ·by_cases h2:b.toNat<a.toNat
    ·exact .inr (.inl h2)
    ·have e:a=b:=UInt8.toNat_inj.1 (by omega)
     subst e
     rcases ih h with q | q
     ·exact .inl (.inr ⟨rfl,q⟩)
     ·exact .inr (.inr ⟨rfl,q⟩)
def Aj (a b:Str):Int:=if Op.bytesLess a b then -1 else if Op.bytesLess b a then 1 else 0
theorem S70 (a b:Str):fn P 70 [.str a,.str b]=some (ci (Aj a b)):=by
 have e:∀ x:Str,fn P 142 [.str x]=some (.bool false):=fun x=>by rw[aai]; simp[Nk]
 rw[u70]
 unfold Aj
 cases h1:Op.bytesLess a b
 ·cases h2:Op.bytesLess b a
  ·have:=zj a b h1 h2
   subst this
   simp[c70,e,h1]
  ·have hne:¬ a=b:=by
    intro q; subst q; rw[Ir] at h2; cases h2
   have hne2:(a == b)=false:=by simpa using hne
   simp[c70,e,h1,hne,hne2]
 ·simp[c70,e,h1]
theorem S72 (x:Stt) (n:Str):fn P 72 [x.enc,.str n]=some (ci (if x.nation=n then 0 else 1)):=by
 rw[u72]
 by_cases h:x.nation=n<;>simp[c72,Stt.enc,h]
theorem Yq (a b:Int):fn P 59 [.slice [ci a,ci b]]=some (ci (aq [a,b])):=by
 rw[u59]
 simp[c59]
 rw[Af]
 by_cases ha:a=0
 ·simp[gn,ha,am]
  rw[Af]
  by_cases hb:b=0
  ·simp[gn,hb,am]
   rw[Af]
   simp[gn,aq]
  ·simp[gn,aq,hb]
 ·simp[gn,ha,aq]
end LM.GZ.J
namespace LM.GZ.J
open Go LM
variable {P:Nat→Option SFunc} [Has P]
theorem lW (l:List Stt) (i:Fin l.length):l[i.val].nation=az l i.val:=by
 unfold az
 simp
def jP (l:List Stt) (M:Mi) (i j:Fin l.length):Int:=aq [mI (iGet (az l j.val) M) (iGet (az l i.val) M),Aj (az l i.val) (az l j.val)]
theorem T8 (l:List Stt) (M:Mi):l6 P (eF l.length) 69 [.ptr [.slice (l.map Stt.enc)] 0,.ptr [mEn M] 0] (jP l M):=by
 intro pos q x y h
 have hk:∀ s,cP (.one 1) (CV.str s)=true:=fun _=>rfl
 have hx:=lW l x
 have hy:=lW l y
 have x1:(x.val:Int)<l.length:=by have:=x.isLt; omega
 have y1:(y.val:Int)<l.length:=by have:=y.isLt; omega
 have x2:=x.isLt
 have y2:=y.isLt
 have e96:=Ug (P:=P) (iGet (az l y.val) M) (iGet (az l x.val) M)
 have e105:=S70 (P:=P) (az l x.val) (az l y.val)
 have e104:=Yq (P:=P) (mI (iGet (az l y.val) M) (iGet (az l x.val) M)) (Aj (az l x.val) (az l y.val))
 have e:fn P 69 [ci x.val,ci y.val,.ptr [.slice (l.map Stt.enc)] 0,.ptr [mEn M] 0]=some (ci (jP l M x y)):=by
  rw[u69]
  unfold jP
  rcases lN (az l x.val) M with ⟨f1,g1⟩ | ⟨i,f1,g1⟩<;>rcases lN (az l y.val) M with ⟨f2,g2⟩ | ⟨j,f2,g2⟩
  ·rw[g1,g2] at e96 e104 ⊢
   simp[c69,mEn,hk,x1,y1,x2,y2,Stt.enc,hx,hy,f1,f2,e96,e105,e104]
  ·rw[g1] at e96 e104 ⊢
   obtain⟨_,g2'⟩:=List.getElem?_eq_some_iff.1 g2
   simp[c69,mEn,hk,x1,y1,x2,y2,Stt.enc,hx,hy,f1,f2,g2,g2',e96,e105,e104]
  ·rw[g2] at e96 e104 ⊢
   obtain⟨_,g1'⟩:=List.getElem?_eq_some_iff.1 g1
   simp[c69,mEn,hk,x1,y1,x2,y2,Stt.enc,hx,hy,f1,f2,g1,g1',e96,e105,e104]
  ·obtain⟨_,g1'⟩:=List.getElem?_eq_some_iff.1 g1
   obtain⟨_,g2'⟩:=List.getElem?_eq_some_iff.1 g2
   simp[c69,mEn,hk,x1,y1,x2,y2,Stt.enc,hx,hy,f1,f2,g1,g1',g2,g2',e96,e105,e104]
 simp[eF,e]
def mu (s:Str) (n:Str):Int:=if s=n then 0 else 1
def oR (l:List Stt) (b:Str) (i j:Fin l.length):Int:=mI (mu (az l i.val) b) (mu (az l j.val) b)
theorem TP (l:List Stt) (b:Str):l6 P (eF l.length) 71 [.ptr [.slice (l.map Stt.enc)] 0,.ptr [.str b] 0] (oR l b):=by
 intro pos q x y h
 have hx:=lW l x
 have hy:=lW l y
 have x1:(x.val:Int)<l.length:=by have:=x.isLt; omega
 have y1:(y.val:Int)<l.length:=by have:=y.isLt; omega
 have x2:=x.isLt
 have y2:=y.isLt
 have e107x:=S72 (P:=P) l[x.val] b
 have e107y:=S72 (P:=P) l[y.val] b
 have e96:=Ug (P:=P) (mu (az l x.val) b) (mu (az l y.val) b)
 rw[hx] at e107x
 rw[hy] at e107y
 have ex:(if az l x.val=b then (0:Int) else 1)=mu (az l x.val) b:=rfl
 have ey:(if az l y.val=b then (0:Int) else 1)=mu (az l y.val) b:=rfl
 rw[ex] at e107x
 rw[ey] at e107y
 simp only[Stt.enc] at e107x e107y
 have e:fn P 71 [ci x.val,ci y.val,.ptr [.slice (l.map Stt.enc)] 0,.ptr [.str b] 0]=some (ci (oR l b x y)):=by
  rw[u71]
  unfold oR
  simp[c71,x1,y1,x2,y2,Stt.enc,e107x,e107y,e96]
 simp[eF,e]
end LM.GZ.J
namespace LM.GZ.J
open Go LM
variable {P:Nat→Option SFunc} [Has P]
def LX (l:List Stt) (z:Nat):LB:=.cells 0 [.c (.slice (l.map Stt.enc))] z
def BX (b:Str) (z:Nat):LB:=.cells 0 [.c (.str b)] z
def CX (M:Mi) (z:Nat):LB:=.cells 0 [.c (mEn M)] z
theorem HS (n:Nat):bi (n+1)=bi n++[(n:Int)]:=by simp[bi,List.range_succ]
theorem Zg (l:List Stt) (hl:l.length<1000) (b:Str) (M:Mi):∀ (k i:Nat),i+k=l.length →
  ac P (af P) xy ⟨[.ptr 0 0 0,.ptr 2 0 0,.ptr 3 0 0,.slice 4 (1+i) 0 i none none,.c (ci l.length),.c (ci i)],[LX l 0,.cells 1 [] 0,BX b 0,CX M 0,.cells (1+i) (cI (bi i)) 0]⟩ =
   some (.exit 0,⟨[.ptr 0 0 0,.ptr 2 0 0,.ptr 3 0 0,.slice 4 (1+l.length) 0 l.length none none],[LX l 0,.cells 1 [] 0,BX b 0,CX M 0,.cells (1+l.length) (cI (bi l.length)) 0]⟩):=by
 intro k
 induction k with
 | zero =>
  intro i h
  have:i=l.length:=by omega
  subst this
  rw[Iw]
  simp[lu]
 | succ k ih =>
  intro i h
  have ih:=ih (i+1) (by omega)
  have ha:=SD none (b:=4) (g:=1+i) (ys:=bi i) (xs:=[(i:Int)]) (h:=[LX l 0,.cells 1 [] 0,BX b 0,CX M 0,.cells (1+i) (cI (bi i)) 0]) rfl (by simp[bH]; omega)
  rw[← HS,bH] at ha
  have hw:IntKind.i64.wrap ((i:Int)+1)=(i:Int)+1:=am (by omega) (by omega)
  have hlt:(i:Int)<l.length:=by omega
  have e1:1+(i+1)=1+i+1:=by omega
  rw[e1] at ih
  simp at ih ha
  rw[Iw]
  simp only[LX,BX,CX] at *
  simp[lu,hw,hlt,ha,j5,ih]
def aW (O:List Int) (m:Nat):Nat→Nat→List Int
 | 0,_=>[]
 | j+1,k=>O.getD k 0::(if m+k<O.length then O.getD (m+k) 0::aW O m j (k+1) else aW O m j (k+1))
theorem Hg {b:Nat} {ys pad:List Int} {x:Int} {h:Heap} {n k:Nat} (hb:h[b]? = some (.cells 1 (cI (ys++0::pad)) 0)) (hn:n=ys.length+pad.length+1) (hk:k=ys.length) (hs:n<1000000) :
  aN none none 8 (.slice b 1 0 k none (some n)) (.c (.slice [ci x])) h=some (.slice b 1 0 (k+1) none (some n),h.set b (.cells 1 (cI (ys++x::pad)) 0)):=by
 subst hk
 have h1:aO none h (.c (.slice [ci x]))=some (1,[.c (ci x)]):=rfl
 have hz:ae none=1:=rfl
 have hset:setCells (cI (ys++0::pad)) ys.length [.c (ci x)]=cI (ys++x::pad):=by
  have e:cI (ys++0::pad)=cI ys++.c (ci 0)::cI pad:=by simp[cI]
  have e2:cI (ys++x::pad)=cI ys++.c (ci x)::cI pad:=by simp[cI]
  rw[e,e2]
  simp[setCells,bJ]
 simp only[aN,h1,hb,hz]
 rw[if_neg (show ¬ ((!aT [LV.c (ci x)])=true) from fun q=>by cases q),if_neg (by simp),if_neg (by simp; omega),if_pos (by omega),if_pos (by simp[bJ]; omega)]
 simp only[Nat.zero_add,Nat.mul_one,hset]
 rfl
theorem YH (l:List Stt) (b:Str) (M:Mi) (z0 z2 z3 g:Nat) (O:List Int) (hO:O.length=l.length) (m:Nat) (hm:m≤l.length) (hl:l.length<1000):∀ (j k:Nat) (ys pad:List Int),k+j=m→ys.length+pad.length=l.length→(aW O m j k).length≤pad.length→(∀ x ∈ pad,x=0) →
  ∃ pad',ys.length+(aW O m j k).length+pad'.length=l.length∧ac P (af P) qa ⟨[.ptr 0 0 0,.slice 4 g 0 l.length none none,.slice 5 1 0 ys.length none (some l.length),.c (ci m),.c (ci m),.c (ci k)],[LX l z0,.cells 1 [] 0,BX b z2,CX M z3,.cells g (cI O) 0,.cells 1 (cI (ys++pad)) 0]⟩ =
   some (.exit 2,⟨[.slice 5 1 0 (ys++aW O m j k).length none (some l.length)],[LX l z0,.cells 1 [] 0,BX b z2,CX M z3,.cells g (cI O) 0,.cells 1 (cI ((ys++aW O m j k)++pad')) 0]⟩):=by
 intro j
 induction j with
 | zero =>
  intro k ys pad h1 h2 h3 h4
  have:k=m:=by omega
  subst this
  refine⟨pad,by simpa[aW] using h2,?_⟩
  rw[yH]
  simp[jx,aW]
 | succ j ih =>
  intro k ys pad h1 h2 h3 h4
  have gk:O[k]? = some (O.getD k 0):=by simp[List.getD_eq_getElem?_getD,List.getElem?_eq_getElem (show k<O.length by omega)]
  have gk2:=qf (xs:=O) (i:=k) (by omega)
  have hkO:k<(cI O).length:=by rw[bJ]; omega
  cases pad with
  | nil=>rw[aW] at h3; split at h3<;>simp at h3
  | cons p pad =>
   have hp:=h4 p (by simp)
   subst hp
   have ha:=Hg (b:=5) (ys:=ys) (pad:=pad) (x:=O.getD k 0) (h:=[LX l z0,.cells 1 [] 0,BX b z2,CX M z3,.cells g (cI O) 0,.cells 1 (cI (ys++0::pad)) 0]) (n:=l.length) rfl (by simp at h2; omega) rfl (by omega)
   have hw:IntKind.i64.wrap ((k:Int)+1)=(k:Int)+1:=am (by omega) (by omega)
   have hw2:IntKind.i64.wrap ((m:Int)+k)=((m+k:Nat):Int):=by rw[Int.natCast_add]; exact am (by omega) (by omega)
   have hlt:(k:Int)<m:=by omega
   have hkl:(k:Int)<l.length:=by omega
   have hkn:k<l.length:=by omega
   rw[aW]
   by_cases hq:m+k<O.length
   ·rw[if_pos hq]
    rw[aW,if_pos hq] at h3
    cases pad with
    | nil=>simp at h3
    | cons p pad =>
     have hp:=h4 p (by simp)
     subst hp
     have gq2:=qf (xs:=O) (i:=m+k) hq
     have hqi:((m+k:Nat):Int)<l.length:=by omega
     have hb:=Hg (b:=5) (ys:=ys++[O.getD k 0]) (pad:=pad) (x:=O.getD (m+k) 0) (h:=[LX l z0,.cells 1 [] 0,BX b z2,CX M z3,.cells g (cI O) 0,.cells 1 (cI ((ys++[O.getD k 0])++0::pad)) 0]) (n:=l.length) (k:=ys.length+1) rfl (by simp at h2 ⊢; omega) (by simp) (by omega)
     obtain⟨pad',i1,i2⟩:=ih (k+1) (ys++[O.getD k 0,O.getD (m+k) 0]) pad (by omega) (by simp at h2 ⊢; omega) (by simp at h3; omega) (fun x hx=>h4 x (by simp[hx]))
     refine⟨pad',by simp at i1 ⊢; omega,?_⟩
     simp only[LX,BX,CX] at *
     generalize O.getD k 0=u at *
     generalize O.getD (m+k) 0=v at *
     simp at ha hb i2 hqi hw2
     have gq3:=List.getElem?_eq_some_iff.2 ⟨(by rw[bJ]; exact hq),gq2⟩
     have j1:0≤(m:Int)+k:=by omega
     have t1:((m:Int)+k).toNat=m+k:=by omega
     have e1:ys.length+((aW O m j (k+1)).length+1+1)=ys.length+(aW O m j (k+1)).length+1+1:=by omega
     have e2:ys.length+((aW O m j (k+1)).length+2)=ys.length+(aW O m j (k+1)).length+1+1:=by omega
     have e3:ys.length+1+1+(aW O m j (k+1)).length=ys.length+(aW O m j (k+1)).length+1+1:=by omega
     simp only[e1,e2,e3] at i2
     rw[yH]
     simp[jx,hw,hw2,hlt,hkl,hkn,hkO,gk2,hqi,hq,hO,bJ,gq2,gq3,j1,t1,ha,hb,j5,i2,e1]
   ·rw[if_neg hq]
    rw[aW,if_neg hq] at h3
    simp at h3
    obtain⟨pad',i1,i2⟩:=ih (k+1) (ys++[O.getD k 0]) pad (by omega) (by simp at h2 ⊢; omega) h3 (fun x hx=>h4 x (by simp[hx]))
    refine⟨pad',by simp at i1 ⊢; omega,?_⟩
    have hq' : ¬ (m:Int)+k<l.length:=by omega
    simp only[LX,BX,CX] at *
    generalize O.getD k 0=u at *
    simp at ha i2 hw2
    have e1:ys.length+((aW O m j (k+1)).length+1)=ys.length+1+(aW O m j (k+1)).length:=by omega
    simp only[e1] at i2
    rw[yH]
    simp[jx,hw,hw2,hlt,hkl,hkn,hkO,gk2,hq,hq',hO,bJ,ha,j5,i2,e1]
end LM.GZ.J
namespace LM.GZ.J
open Go LM
variable {P:Nat→Option SFunc} [Has P]
theorem Yt (l:List Stt) (b:Str) (M:Mi) (z0 z2 z3 g:Nat) (O:List Int) (hO:O.length=l.length) (m:Nat) (hm:m≤l.length) (hl:l.length<1000):∀ (j k:Nat) (ys pad:List Int),k+j=m→ys.length+pad.length=l.length→(aW O m j k).length≤pad.length→(∀ x ∈ pad,x=0) →
  ∃ pad',ys.length+(aW O m j k).length+pad'.length=l.length∧ac P (af P) qk ⟨[.ptr 0 0 0,.slice 4 g 0 l.length none none,.slice 5 1 0 ys.length none (some l.length),.c (ci m),.c (ci m),.c (ci k)],[LX l z0,.cells 1 [] 0,BX b z2,CX M z3,.cells g (cI O) 0,.cells 1 (cI (ys++pad)) 0]⟩ =
   some (.exit 4,⟨[.slice 5 1 0 (ys++aW O m j k).length none (some l.length)],[LX l z0,.cells 1 [] 0,BX b z2,CX M z3,.cells g (cI O) 0,.cells 1 (cI ((ys++aW O m j k)++pad')) 0]⟩):=by
 intro j
 induction j with
 | zero =>
  intro k ys pad h1 h2 h3 h4
  have:k=m:=by omega
  subst this
  refine⟨pad,by simpa[aW] using h2,?_⟩
  rw[xH]
  simp[jk,aW]
 | succ j ih =>
  intro k ys pad h1 h2 h3 h4
  have gk:O[k]? = some (O.getD k 0):=by simp[List.getD_eq_getElem?_getD,List.getElem?_eq_getElem (show k<O.length by omega)]
  have gk2:=qf (xs:=O) (i:=k) (by omega)
  have hkO:k<(cI O).length:=by rw[bJ]; omega
  cases pad with
  | nil=>rw[aW] at h3; split at h3<;>simp at h3
  | cons p pad =>
   have hp:=h4 p (by simp)
   subst hp
   have ha:=Hg (b:=5) (ys:=ys) (pad:=pad) (x:=O.getD k 0) (h:=[LX l z0,.cells 1 [] 0,BX b z2,CX M z3,.cells g (cI O) 0,.cells 1 (cI (ys++0::pad)) 0]) (n:=l.length) rfl (by simp at h2; omega) rfl (by omega)
   have hw:IntKind.i64.wrap ((k:Int)+1)=(k:Int)+1:=am (by omega) (by omega)
   have hw2:IntKind.i64.wrap ((m:Int)+k)=((m+k:Nat):Int):=by rw[Int.natCast_add]; exact am (by omega) (by omega)
   have hlt:(k:Int)<m:=by omega
   have hkl:(k:Int)<l.length:=by omega
   have hkn:k<l.length:=by omega
   rw[aW]
   by_cases hq:m+k<O.length
   ·rw[if_pos hq]
    rw[aW,if_pos hq] at h3
    cases pad with
    | nil=>simp at h3
    | cons p pad =>
     have hp:=h4 p (by simp)
     subst hp
     have gq2:=qf (xs:=O) (i:=m+k) hq
     have hqi:((m+k:Nat):Int)<l.length:=by omega
     have hb:=Hg (b:=5) (ys:=ys++[O.getD k 0]) (pad:=pad) (x:=O.getD (m+k) 0) (h:=[LX l z0,.cells 1 [] 0,BX b z2,CX M z3,.cells g (cI O) 0,.cells 1 (cI ((ys++[O.getD k 0])++0::pad)) 0]) (n:=l.length) (k:=ys.length+1) rfl (by simp at h2 ⊢; omega) (by simp) (by omega)
     obtain⟨pad',i1,i2⟩:=ih (k+1) (ys++[O.getD k 0,O.getD (m+k) 0]) pad (by omega) (by simp at h2 ⊢; omega) (by simp at h3; omega) (fun x hx=>h4 x (by simp[hx]))
     refine⟨pad',by simp at i1 ⊢; omega,?_⟩
     simp only[LX,BX,CX] at *
     generalize O.getD k 0=u at *
     generalize O.getD (m+k) 0=v at *
     simp at ha hb i2 hqi hw2
     have gq3:=List.getElem?_eq_some_iff.2 ⟨(by rw[bJ]; exact hq),gq2⟩
     have j1:0≤(m:Int)+k:=by omega
     have t1:((m:Int)+k).toNat=m+k:=by omega
     have e1:ys.length+((aW O m j (k+1)).length+1+1)=ys.length+(aW O m j (k+1)).length+1+1:=by omega
     have e2:ys.length+((aW O m j (k+1)).length+2)=ys.length+(aW O m j (k+1)).length+1+1:=by omega
     have e3:ys.length+1+1+(aW O m j (k+1)).length=ys.length+(aW O m j (k+1)).length+1+1:=by omega
     simp only[e1,e2,e3] at i2
     rw[xH]
     simp[jk,hw,hw2,hlt,hkl,hkn,hkO,gk2,hqi,hq,hO,bJ,gq2,gq3,j1,t1,ha,hb,j5,i2,e1]
   ·rw[if_neg hq]
    rw[aW,if_neg hq] at h3
    simp at h3
    obtain⟨pad',i1,i2⟩:=ih (k+1) (ys++[O.getD k 0]) pad (by omega) (by simp at h2 ⊢; omega) h3 (fun x hx=>h4 x (by simp[hx]))
    refine⟨pad',by simp at i1 ⊢; omega,?_⟩
    have hq' : ¬ (m:Int)+k<l.length:=by omega
    simp only[LX,BX,CX] at *
    generalize O.getD k 0=u at *
    simp at ha i2 hw2
    have e1:ys.length+((aW O m j (k+1)).length+1)=ys.length+1+(aW O m j (k+1)).length:=by omega
    simp only[e1] at i2
    rw[xH]
    simp[jk,hw,hw2,hlt,hkl,hkn,hkO,gk2,hq,hq',hO,bJ,ha,j5,i2,e1]
def wv:List Int→List Int→List Int
 | a::A,b::B=>a::b::wv A B
 | a::A,[]=>a::wv A []
 | [],_=>[]
theorem um:∀ A B:List Int,B.length≤A.length→(wv A B).Perm (A++B)
 | [],[],_=>by simp[wv]
 | [],b::B,h=>by simp at h
 | a::A,[],h=>by
  have:=um A [] (by simp)
  simp only[wv]
  simpa using this
 | a::A,b::B,h=>by
  have ih:=um A B (by simpa using h)
  simp only[wv,List.cons_append]
  refine List.Perm.cons a ?_
  exact (List.Perm.cons b ih).trans List.perm_middle.symm
theorem Aw (O:List Int) (m:Nat) (hm:m≤O.length):∀ (j k:Nat),k+j=m→aW O m j k=wv ((O.take m).drop k) (O.drop (m+k)):=by
 intro j
 induction j with
 | zero =>
  intro k h
  have:(O.take m).drop k=[]:=by apply List.drop_eq_nil_of_le; simp; omega
  rw[this]
  simp[aW,wv]
 | succ j ih =>
  intro k h
  have hk:k<(O.take m).length:=by simp; omega
  have e1:(O.take m).drop k=O.getD k 0::(O.take m).drop (k+1):=by
   rw[List.drop_eq_getElem_cons hk]
   congr 1
   simp[List.getD_eq_getElem?_getD,List.getElem?_eq_getElem (show k<O.length by omega)]
  rw[aW,ih (k+1) (by omega),e1]
  by_cases hq:m+k<O.length
  ·have e2:O.drop (m+k)=O.getD (m+k) 0::O.drop (m+(k+1)):=by
    rw[List.drop_eq_getElem_cons hq]
    congr 1
    simp[List.getD_eq_getElem?_getD,List.getElem?_eq_getElem hq]
   rw[if_pos hq,e2]
   simp[wv]
  ·have e2:O.drop (m+k)=[]:=List.drop_eq_nil_of_le (by omega)
   have e3:O.drop (m+(k+1))=[]:=List.drop_eq_nil_of_le (by omega)
   rw[if_neg hq,e2,e3]
   simp[wv]
theorem GS (O:List Int) (m:Nat) (hm:m≤O.length) (h2:O.length≤2*m):(aW O m m 0).Perm O:=by
 rw[Aw O m hm m 0 (by omega)]
 have:=um (O.take m) (O.drop m) (by simp; omega)
 simpa using this
def ltN (l:List Stt) (M:Mi) (a b:Int):Bool:=decide (iGet (az l b) M<iGet (az l a) M) || (decide (iGet (az l b) M=iGet (az l a) M) && Op.bytesLess (az l a) (az l b))
def ltO (l:List Stt) (s:Str) (a b:Int):Bool:=decide (mu (az l a) s<mu (az l b) s)
def eo (l:List Stt) (M:Mi) (s:Str):List Int:=aR (ltO l s) [] (aR (ltN l M) [] (bi l.length))
def cy (l:List Stt) (M:Mi) (s:Str):Nat:=if 2*iGet s M > l.length+1 then (iGet s M).toNat else (l.length+1) / 2
def bG (l:List Stt) (M:Mi) (s:Str):List Int:=aW (eo l M s) (cy l M s) (cy l M s) 0
theorem QS (l:List Stt) (M:Mi) (i j:Fin l.length):ltC (jP l M) i j=ltN l M i.val j.val:=by
 unfold ltC jP ltN mI Aj
 by_cases h1:iGet (az l j.val) M<iGet (az l i.val) M
 ·simp[aq,h1]
 ·by_cases h2:iGet (az l i.val) M<iGet (az l j.val) M
  ·have h3:¬ iGet (az l j.val) M=iGet (az l i.val) M:=by omega
   simp[aq,h1,h2,h3]
  ·have h3:iGet (az l j.val) M=iGet (az l i.val) M:=by omega
   cases h4:Op.bytesLess (az l i.val) (az l j.val)<;>cases h5:Op.bytesLess (az l j.val) (az l i.val)<;>simp[aq,h3]
theorem P3 (l:List Stt) (s:Str) (i j:Fin l.length):ltC (oR l s) i j=ltO l s i.val j.val:=by
 unfold ltC oR ltO
 exact decide_eq_decide.2 (Mp _ _)
theorem aaa (l:List Stt) (M:Mi):Swo (ltN l M):=by
 refine⟨?_,?_⟩
 ·intro x y h
  unfold ltN at h ⊢
  simp only[Bool.or_eq_true,Bool.and_eq_true,decide_eq_true_eq] at h
  simp only[Bool.or_eq_false_iff,Bool.and_eq_false_iff,decide_eq_false_iff_not]
  rcases h with h | ⟨h1,h2⟩
  ·exact⟨by omega,.inl (by omega)⟩
  ·exact⟨by omega,.inr (Db _ _ h2)⟩
 ·intro x y z h
  unfold ltN at h ⊢
  simp only[Bool.or_eq_true,Bool.and_eq_true,decide_eq_true_eq] at h ⊢
  by_cases h1:iGet (az l y) M<iGet (az l x) M
  ·exact .inl (.inl h1)
  ·by_cases h2:iGet (az l z) M<iGet (az l y) M
   ·exact .inr (.inl h2)
   ·rcases h with h | ⟨h3,h4⟩
    ·omega
    ·rcases ya _ (az l y) _ h4 with q | q
     ·exact .inl (.inr ⟨by omega,q⟩)
     ·exact .inr (.inr ⟨by omega,q⟩)
theorem OQ (n:Nat):∃ F:List (Fin n),F.map (fun i=>(i.val:Int))=bi n:=LN (by
 intro x hx
 unfold bi at hx
 obtain⟨k,hk,rfl⟩:=List.mem_map.1 hx
 have:=List.mem_range.1 hk
 omega)
end LM.GZ.J
namespace LM.GZ.J
open Go LM
variable {P:Nat→Option SFunc} [Has P]
theorem ni (l:List Stt) (M:Mi) (s:Str):(eo l M s).Perm (bi l.length):=by
 have h1:=gT (lt:=ltO l s) [] (aR (ltN l M) [] (bi l.length))
 have h2:=gT (lt:=ltN l M) [] (bi l.length)
 exact h1.trans (by simpa using h2)
theorem pJ (l:List Stt) (M:Mi) (s:Str):(eo l M s).length=l.length:=by rw[(ni l M s).length_eq,bH]
theorem oU {l:List Stt} {M:Mi} {s:Str} (hG:Great l M s):cy l M s≤l.length∧l.length≤2*cy l M s:=by
 have hb:=dQ s l
 have:=hG.cnt s
 unfold cy
 split<;>omega
theorem kT {l:List Stt} {M:Mi} {s:Str} (hG:Great l M s):(bG l M s).Perm (bi l.length):=by
 obtain⟨h1,h2⟩:=oU hG
 have:=pJ l M s
 exact (GS (eo l M s) (cy l M s) (by omega) (by omega)).trans (ni l M s)
end LM.GZ.J
namespace LM.GZ.J
open Go LM
theorem pU (s:Str):∀ l:List Stt,cntS s l=((l.map (·.nation)).count s:Nat)
 | []=>by simp[cntS]
 | x::r=>by
  have ih:=pU s r
  simp only[cntS,List.map_cons,List.count_cons,ih]
  by_cases h:x.nation=s<;>simp[h]<;>omega
theorem NF (l:List Stt):(bi l.length).map (az l)=l.map (·.nation):=by
 apply List.ext_getElem
 ·simp[bi]
 ·intro i h1 h2
  simp[bi,az]
  have:i<l.length:=by simpa using h2
  simp[this]
theorem zT {l:List Stt} {O:List Int} (h:O.Perm (bi l.length)) (s:Str):cntS s l=((O.map (az l)).count s:Nat):=by
 rw[pU,← NF,(h.map (az l)).count_eq]
theorem Bf {lt:Int→Int→Bool} {p:Int→Bool} (hlt:∀ x y,lt x y=(p x && !p y)):∀ (U S:List Int),aR lt (S.filter p++S.filter (fun a=>!p a)) U=(S++U).filter p++(S++U).filter (fun a=>!p a)
 | [],S=>by simp[aR]
 | x::U,S=>by
  have ih:=Bf hlt U (S++[x])
  have e:ee lt x (S.filter p++S.filter (fun a=>!p a))=(S++[x]).filter p++(S++[x]).filter (fun a=>!p a):=by
   cases hp:p x
   ·have h1:(S++[x]).filter p=S.filter p:=by simp[hp]
    have h2:(S++[x]).filter (fun a=>!p a)=S.filter (fun a=>!p a)++[x]:=by simp[hp]
    rw[h1,h2]
    have:=tY (lt:=lt) (x:=x) (A:=S.filter p++S.filter (fun a=>!p a)) (B:=[]) (fun y _=>by rw[hlt,hp]; rfl) (by simp)
    simpa using this
   ·have h1:(S++[x]).filter p=S.filter p++[x]:=by simp[hp]
    have h2:(S++[x]).filter (fun a=>!p a)=S.filter (fun a=>!p a):=by simp[hp]
    rw[h1,h2]
    have:=tY (lt:=lt) (x:=x) (A:=S.filter p) (B:=S.filter (fun a=>!p a)) (fun y hy=>by
     have hy2:=(List.mem_filter.1 hy).2
     rw[hlt,hy2]; simp) (fun y hy=>by
     have hy2:=(List.mem_filter.1 hy).2
     rw[hlt,hp]; simpa using hy2)
    simpa using this
  rw[aR,e,ih]
  simp
theorem Gp (l:List Stt) (M:Mi) (b:Str):eo l M b=(aR (ltN l M) [] (bi l.length)).filter (fun a=>decide (az l a=b))++(aR (ltN l M) [] (bi l.length)).filter (fun a=>!decide (az l a=b)):=by
 unfold eo
 have:=Bf (lt:=ltO l b) (p:=fun a=>decide (az l a=b)) (fun x y=>by
  unfold ltO mu
  by_cases h1:az l x=b<;>by_cases h2:az l y=b<;>simp[h1,h2]) (aR (ltN l M) [] (bi l.length)) []
 simpa using this
structure Blocks (N:List Str) (b:Str):Prop where
 first:∀ i s,N[i]? = some s→(i<N.count b↔s=b)
 piece:∀ i j s,i≤j→N[i]? = some s→N[j]? = some s→j-i+1≤N.count s
theorem oC {N:List Str} {s:Str} {i j:Nat} (hij:i≤j) (hj:j<N.length) (h:∀ k,i≤k→k≤j→N[k]? = some s):j-i+1≤N.count s:=by
 have hs:((N.drop i).take (j-i+1))=List.replicate (j-i+1) s:=by
  apply List.ext_getElem
  ·simp; omega
  ·intro k h1 h2
   simp at h1 h2
   have:=h (i+k) (by omega) (by omega)
   obtain⟨_,e⟩:=List.getElem?_eq_some_iff.1 this
   simp[e]
 have hsub:((N.drop i).take (j-i+1)).Sublist N:=(List.take_sublist _ _).trans (List.drop_sublist _ _)
 have:=hsub.count_le s
 rw[hs,List.count_replicate_self] at this
 exact this
theorem BY (l:List Stt) (M:Mi) (b:Str) (hM:∀ s,iGet s M=cntS s l):Blocks ((eo l M b).map (az l)) b:=by
 have hsp:=Gp l M b
 have hsrt:=mJ (aaa l M) [] (bi l.length) (by simp[Srt])
 generalize hS:aR (ltN l M) [] (bi l.length)=S at hsp hsrt
 have hN:(eo l M b).map (az l)=(S.filter (fun a=>decide (az l a=b))).map (az l)++(S.filter (fun a=>!decide (az l a=b))).map (az l):=by rw[hsp,List.map_append]
 generalize hA:(S.filter (fun a=>decide (az l a=b))).map (az l)=A at hN
 generalize hR:(S.filter (fun a=>!decide (az l a=b))).map (az l)=R at hN
 have hAb:∀ x ∈ A,x=b:=by
  intro x hx
  rw[← hA] at hx
  obtain⟨a,ha,rfl⟩:=List.mem_map.1 hx
  simpa using (List.mem_filter.1 ha).2
 have hRb:∀ x ∈ R,x≠b:=by
  intro x hx
  rw[← hR] at hx
  obtain⟨a,ha,rfl⟩:=List.mem_map.1 hx
  simpa using (List.mem_filter.1 ha).2
 have hcA:A.count b=A.length:=List.count_eq_length.2 (fun x hx=>(hAb x hx).symm)
 have hcR:R.count b=0:=List.count_eq_zero.2 (fun h=>hRb b h rfl)
 have hcb:(A++R).count b=A.length:=by rw[List.count_append,hcA,hcR]; rfl
 rw[hN]
 have hfirst:∀ i s,(A++R)[i]? = some s→(i<(A++R).count b↔s=b):=by
  intro i s h
  rw[hcb]
  by_cases hi:i<A.length
  ·rw[List.getElem?_append_left hi] at h
   have:=hAb s (List.mem_of_getElem? h)
   simp[hi,this]
  ·rw[List.getElem?_append_right (by omega)] at h
   have:=hRb s (List.mem_of_getElem? h)
   simp[hi,this]
 refine⟨hfirst,?_⟩
 intro i j s hij h1 h2
 have hj:j<(A++R).length:=(List.getElem?_eq_some_iff.1 h2).1
 by_cases hsb:s=b
 ·subst hsb
  have:=(hfirst j s h2).2 rfl
  refine oC hij hj (fun k k1 k2=>?_)
  have hk:k<A.length:=by omega
  rw[List.getElem?_append_left hk,List.getElem?_eq_getElem hk,hAb _ (List.getElem_mem hk)]
 ·have hi:A.length≤i:=by
   have:¬ i<(A++R).count b:=fun q=>hsb ((hfirst i s h1).1 q)
   omega
  refine oC hij hj (fun k k1 k2=>?_)
  rw[List.getElem?_append_right hi] at h1
  rw[List.getElem?_append_right (by omega)] at h2
  rw[List.getElem?_append_right (by omega)]
  rw[← hR] at h1 h2 ⊢
  have hF:(S.filter (fun a=>!decide (az l a=b))).Pairwise fun x y=>ltN l M y x=false:=List.Pairwise.filter _ hsrt
  generalize S.filter (fun a=>!decide (az l a=b))=F at *
  rw[List.getElem?_map] at h1 h2 ⊢
  by_cases e1:i=k
  ·subst e1; exact h1
  ·by_cases e2:k=j
   ·subst e2; exact h2
   ·have hkF:k-A.length<F.length:=by
     have:j-A.length<F.length:=by
      by_cases q:j-A.length<F.length
      ·exact q
      ·rw[List.getElem?_eq_none (by omega)] at h2; cases h2
     omega
    have hjF:j-A.length<F.length:=by
     by_cases q:j-A.length<F.length
     ·exact q
     ·rw[List.getElem?_eq_none (by omega)] at h2; cases h2
    have hiF:i-A.length<F.length:=by omega
    have p1:=List.pairwise_iff_getElem.1 hF (i-A.length) (k-A.length) hiF hkF (by omega)
    have p2:=List.pairwise_iff_getElem.1 hF (k-A.length) (j-A.length) hkF hjF (by omega)
    rw[List.getElem?_eq_getElem hiF] at h1
    rw[List.getElem?_eq_getElem hjF] at h2
    rw[List.getElem?_eq_getElem hkF]
    simp at h1 h2 ⊢
    unfold ltN at p1 p2
    rw[h1] at p1
    rw[h2] at p2
    simp only[Bool.or_eq_false_iff,Bool.and_eq_false_iff,decide_eq_false_iff_not] at p1 p2
    refine zj _ _ ?_ ?_
    ·rcases p1.2 with q | q
     ·omega
     ·exact q
    ·rcases p2.2 with q | q
     ·omega
     ·exact q
end LM.GZ.J
namespace LM.GZ.J
open Go LM
def wvG:List Str→List Str→List Str
 | a::A,b::B=>a::b::wvG A B
 | a::A,[]=>a::wvG A []
 | [],_=>[]
theorem AF (f:Int→Str):∀ A B:List Int,(wv A B).map f=wvG (A.map f) (B.map f)
 | [],B=>by simp[wv,wvG]
 | a::A,[]=>by have:=AF f A []; simp[wv,wvG] at this ⊢; exact this
 | a::A,b::B=>by simp[wv,wvG,AF f A B]
def hdE (l:List Str) (a:Str):Int:=match l with
 | b::_=>if b=a then 1 else 0
 | []=>0
theorem gu (a:Str):∀ l:List Str,bR (a::l)=hdE l a+bR l
 | []=>rfl
 | b::r=>rfl
theorem Co (b:Str):∀ k:Nat,wvG (List.replicate k b) []=List.replicate k b
 | 0=>rfl
 | k+1=>by rw[List.replicate_succ,wvG,Co b k]
theorem xt (b:Str):∀ k:Nat,bR (List.replicate (k+1) b)=k
 | 0=>rfl
 | k+1=>by
  rw[List.replicate_succ,gu,xt b k,List.replicate_succ]
  simp[hdE]
  omega
theorem pY (b:Str):∀ (B:List Str) (k:Nat),(∀ x ∈ B,x≠b)→B.length+1≤k→bR (wvG (List.replicate k b) B)=k-1-B.length
 | [],k,_,h=>by
  obtain⟨k',rfl⟩ : ∃ k',k=k'+1:=⟨k-1,by simp at h; omega⟩
  rw[Co,xt]
  simp
 | x::B,k,hx,h=>by
  obtain⟨k',rfl⟩ : ∃ k',k=k'+1+1:=⟨k-2,by simp at h; omega⟩
  have ih:=pY b B (k'+1) (fun y hy=>hx y (by simp[hy])) (by simp at h; omega)
  have h0:=hx x (by simp)
  rw[List.replicate_succ,wvG,gu,gu,ih]
  have e1:hdE (x::wvG (List.replicate (k'+1) b) B) b=0:=by simp[hdE,h0]
  have e2:hdE (wvG (List.replicate (k'+1) b) B) x=0:=by
   rw[List.replicate_succ]
   cases B with
   | nil=>simp[wvG,hdE]; exact fun q=>h0 q.symm
   | cons y B=>simp[wvG,hdE]; exact fun q=>h0 q.symm
  rw[e1,e2]
  simp
  omega
theorem vc:∀ (A B:List Str),(∀ (i:Nat) a b,A[i]? = some a→B[i]? = some b→a≠b)→(∀ (i:Nat) a b,B[i]? = some b→A[i+1]? = some a→a≠b)→A.length≤B.length+1→bR (wvG A B)=0
 | [],B,_,_,_=>by simp[wvG,bR]
 | [a],[],_,_,_=>by simp[wvG,bR]
 | a::a'::A,[],_,_,h=>by simp at h
 | a::A,b::B,h1,h2,h3=>by
  have ih:=vc A B (fun i x y p q=>h1 (i+1) x y (by simpa using p) (by simpa using q)) (fun i x y p q=>h2 (i+1) x y (by simpa using p) (by simpa using q)) (by simpa using h3)
  have d1:=h1 0 a b rfl rfl
  rw[wvG,gu,gu,ih]
  have e1:hdE (b::wvG A B) a=0:=by simp[hdE]; exact fun q=>d1 q.symm
  have e2:hdE (wvG A B) b=0:=by
   cases A with
   | nil=>simp[wvG,hdE]
   | cons a' A =>
    have d2:=h2 0 a' b rfl rfl
    cases B<;>simp[wvG,hdE,d2]
  rw[e1,e2]
  rfl
theorem uY {l:List Stt} {M:Mi} {b:Str} (hG:Great l M b):bR ((bG l M b).map (az l))=kS l:=by
 have hB:=BY l M b hG.cnt
 have hlen:=pJ l M b
 have hcnt:=fun s=>zT (ni l M b) s
 obtain⟨hh1,hh2⟩:=oU hG
 have hN:(bG l M b).map (az l)=wvG (((eo l M b).map (az l)).take (cy l M b)) (((eo l M b).map (az l)).drop (cy l M b)):=by
  unfold bG
  rw[Aw (eo l M b) (cy l M b) (by omega) (cy l M b) 0 (by omega),AF]
  simp
 have hNl:((eo l M b).map (az l)).length=l.length:=by simp[hlen]
 have hm:=hG.most
 have hc:=hG.cnt b
 have hcb:=dQ b l
 have htop:=hG.top
 rw[hN]
 unfold kS
 rw[← hm]
 have hhd:cy l M b=if 2*iGet b M > l.length+1 then (iGet b M).toNat else (l.length+1) / 2:=rfl
 rw[hc] at hhd
 generalize (eo l M b).map (az l)=N at *
 generalize cy l M b=h at *
 have hb:=hcnt b
 by_cases hq:2*cntS b l > l.length+1
 ·rw[if_pos hq] at hhd
  have hA:N.take h=List.replicate h b:=by
   apply List.ext_getElem
   ·simp; omega
   ·intro i h1 h2
    simp at h1 h2
    have:=(hB.first i (N[i]'(by omega)) (List.getElem?_eq_getElem (by omega))).1 (by omega)
    simp[this]
  have hR:∀ x ∈ N.drop h,x≠b:=by
   intro x hx
   obtain⟨i,hi⟩:=List.mem_iff_getElem?.1 hx
   rw[List.getElem?_drop] at hi
   intro e
   have:=(hB.first _ x hi).2 e
   omega
  rw[hA,pY b _ h hR (by simp; omega)]
  simp
  omega
 ·rw[if_neg hq] at hhd
  rw[vc]
  ·omega
  ·intro i a c h1 h2
   rw[List.getElem?_take] at h1
   split at h1
   ·rename_i hi
    rw[List.getElem?_drop] at h2
    intro e
    subst e
    have:=hB.piece i (h+i) a (by omega) h1 h2
    have:=htop a
    have:=hcnt a
    omega
   ·cases h1
  ·intro i a c h1 h2
   rw[List.getElem?_take] at h2
   split at h2
   ·rename_i hi
    rw[List.getElem?_drop] at h1
    intro e
    subst e
    have p1:=hB.piece (i+1) (h+i) a (by omega) h2 h1
    have p2:=htop a
    have p3:=hcnt a
    have p4:=(hB.first (i+1) a h2).1 (by omega)
    have p5:=(hB.first (h+i) a h1).2 p4
    omega
   ·cases h2
  ·simp; omega
theorem rC (b:Str):∀ X:List Str,(2*(X.count b:Nat):Int)≤bR X+X.length+1∧(X.head? = some b→(2*(X.count b:Nat):Int)≤bR X+X.length+1)∧(X.head?≠some b→(2*(X.count b:Nat):Int)≤bR X+X.length)
 | []=>by simp[bR]
 | x::X=>by
  have ih:=rC b X
  have hcc:(x::X).count b=X.count b+if x=b then 1 else 0:=by rw[List.count_cons]; simp
  rw[gu,hcc]
  have hb:=i8 X
  by_cases hx:x=b
  ·subst hx
   have:hdE X x=1∧X.head? = some x∨hdE X x=0∧X.head?≠some x:=by
    cases X with
    | nil=>right; simp[hdE]
    | cons y X=>by_cases q:y=x<;>simp[hdE,q]
   have goal:(2*((X.count x+if x=x then 1 else 0:Nat):Nat):Int)≤hdE X x+bR X+(x::X).length+1:=by
    simp
    rcases this with ⟨t1,t2⟩ | ⟨t1,t2⟩
    ·have:=ih.2.1 t2; omega
    ·have:=ih.2.2 t2; omega
   exact⟨goal,fun _=>goal,fun q=>by simp at q⟩
  ·have h0:0≤hdE X x:=by unfold hdE; split<;>(try split)<;>omega
   have goal:(2*((X.count b+if x=b then 1 else 0:Nat):Nat):Int)≤hdE X x+bR X+(x::X).length:=by
    simp[hx]
    have:=ih.1
    omega
   exact⟨by omega,fun q=>by omega,fun _=>goal⟩
end LM.GZ.J
namespace LM.GZ.J
open Go LM
variable {P:Nat→Option SFunc} [Has P]
abbrev Row:=Option Nat × List Int
def rowV:Row→LV
 | (none,_)=>.nil
 | (some j,xs)=>.slice (j+1+1) xs.length 0 xs.length none none
structure RInv (T:List LB) (R:List Row):Prop where
 ne:∀ (k j:Nat) (xs:List Int),R[k]? = some (some j,xs)→xs≠[]
 empty:∀ (k:Nat) (xs:List Int),R[k]? = some (none,xs)→xs=[]
 own:∀ (k j:Nat) (xs:List Int),R[k]? = some (some j,xs)→T[j]? = some (.cells xs.length (cI xs) 0)
 one:∀ (k k' j:Nat) (xs xs' : List Int),R[k]? = some (some j,xs)→R[k']? = some (some j,xs')→k=k'
theorem RInv.lt {T:List LB} {R:List Row} (h:RInv T R) {k j:Nat} {xs:List Int} (hk:R[k]? = some (some j,xs)):j<T.length:=(List.getElem?_eq_some_iff.1 (h.own k j xs hk)).1
theorem RInv.start (n:Nat):RInv [] (List.replicate n (none,[])):=by
 have:∀ (k:Nat) (o:Option Nat) (xs:List Int),(List.replicate n ((none,[]):Row))[k]? = some (o,xs)→o=none∧xs=[]:=by
  intro k o xs h
  rw[List.getElem?_replicate] at h
  split at h
  ·simp at h; exact⟨h.1.symm,h.2⟩
  ·cases h
 exact⟨fun k j xs h=>(by cases (this k _ xs h).1),fun k xs h=>(this k _ xs h).2,fun k j xs h=>(by cases (this k _ xs h).1),fun k k' j xs xs' h _=>(by cases (this k _ xs h).1)⟩
theorem RInv.new {T:List LB} {R:List Row} (h:RInv T R) (a:Nat) (ha:a<R.length) (i:Int) (W:List LB):RInv (T++W++[.cells 1 (cI [i]) 0]) (R.set a (some (T.length+W.length),[i])):=by
 have hget:∀ (k:Nat) (o:Option Nat) (xs:List Int),(R.set a (some (T.length+W.length),[i]))[k]? = some (o,xs)→(k=a∧o=some (T.length+W.length)∧xs=[i])∨(k≠a∧R[k]? = some (o,xs)):=by
  intro k o xs hk
  rw[List.getElem?_set] at hk
  split at hk
  ·rename_i e
   subst e
   simp at hk
   exact .inl ⟨rfl,hk.1.symm,hk.2.symm⟩
  ·rename_i e
   exact .inr ⟨fun q=>e q.symm,hk⟩
 refine⟨?_,?_,?_,?_⟩
 ·intro k j xs hk
  rcases hget k (some j) xs hk with ⟨_,_,rfl⟩ | ⟨_,q⟩
  ·simp
  ·exact h.ne k j xs q
 ·intro k xs hk
  rcases hget k none xs hk with ⟨_,q,_⟩ | ⟨_,q⟩
  ·cases q
  ·exact h.empty k xs q
 ·intro k j xs hk
  rcases hget k (some j) xs hk with ⟨_,q,rfl⟩ | ⟨_,q⟩
  ·have q:j=T.length+W.length:=by simpa using q
   subst q
   rw[List.getElem?_append_right (by simp)]
   simp
  ·have:=h.lt q
   rw[List.append_assoc,List.getElem?_append_left this]
   exact h.own k j xs q
 ·intro k k' j xs xs' h1 h2
  rcases hget k (some j) xs h1 with ⟨a1,q1,_⟩ | ⟨a1,q1⟩<;>rcases hget k' (some j) xs' h2 with ⟨a2,q2,_⟩ | ⟨a2,q2⟩
  ·rw[a1,a2]
  ·have e:j=T.length+W.length:=by simpa using q1
   have:=h.lt q2
   omega
  ·have e:j=T.length+W.length:=by simpa using q2
   have:=h.lt q1
   omega
  ·exact h.one k k' j xs xs' q1 q2
theorem RInv.more {T:List LB} {R:List Row} (h:RInv T R) (a j:Nat) (xs:List Int) (ha:R[a]? = some (some j,xs)) (i:Int) (W:List LB):RInv (T.set j (.cells (xs.length+1) (cI (xs++[i])) 0)++W) (R.set a (some j,xs++[i])):=by
 have hal:a<R.length:=(List.getElem?_eq_some_iff.1 ha).1
 have hj:=h.lt ha
 have hget:∀ (k:Nat) (o:Option Nat) (ys:List Int),(R.set a (some j,xs++[i]))[k]? = some (o,ys)→(k=a∧o=some j∧ys=xs++[i])∨(k≠a∧R[k]? = some (o,ys)):=by
  intro k o ys hk
  rw[List.getElem?_set] at hk
  split at hk
  ·rename_i e
   subst e
   simp at hk
   exact .inl ⟨rfl,hk.1.symm,hk.2.symm⟩
  ·rename_i e
   exact .inr ⟨fun q=>e q.symm,hk⟩
 refine⟨?_,?_,?_,?_⟩
 ·intro k j' ys hk
  rcases hget k (some j') ys hk with ⟨_,_,rfl⟩ | ⟨_,q⟩
  ·simp
  ·exact h.ne k j' ys q
 ·intro k ys hk
  rcases hget k none ys hk with ⟨_,q,_⟩ | ⟨_,q⟩
  ·cases q
  ·exact h.empty k ys q
 ·intro k j' ys hk
  rcases hget k (some j') ys hk with ⟨_,q,rfl⟩ | ⟨hne,q⟩
  ·have q:j'=j:=by simpa using q
   subst q
   rw[List.getElem?_append_left (by simpa using hj),List.getElem?_set_self hj]
   simp
  ·have hlt:=h.lt q
   have hne2:j≠j':=by
    intro e
    subst e
    exact hne (h.one k a j ys xs q ha)
   rw[List.getElem?_append_left (by simpa using hlt),List.getElem?_set_ne hne2]
   exact h.own k j' ys q
 ·intro k k' j' ys ys' h1 h2
  rcases hget k (some j') ys h1 with ⟨a1,q1,_⟩ | ⟨a1,q1⟩<;>rcases hget k' (some j') ys' h2 with ⟨a2,q2,_⟩ | ⟨a2,q2⟩
  ·rw[a1,a2]
  ·have e:j'=j:=by simpa using q1
   subst e
   rw[a1]
   exact h.one a k' j' xs ys' ha q2
  ·have e:j'=j:=by simpa using q2
   subst e
   rw[a2]
   exact h.one k a j' ys xs q1 ha
  ·exact h.one k k' j' ys ys' q1 q2
theorem fX {h:Heap} {k g z:Nat} {cs:List LV} (b t:Nat) (hk:h[k]? = some (.cells g cs z)):∃ z',(bump b t h)[k]? = some (.cells g cs z'):=by
 unfold bump
 by_cases e:b=k
 ·subst e
  rw[hk]
  exact⟨_,List.getElem?_set_self (List.getElem?_eq_some_iff.1 hk).1⟩
 ·split
  ·rw[List.getElem?_set_ne e]
   exact⟨z,hk⟩
  ·exact⟨z,hk⟩
end LM.GZ.J
namespace LM.GZ.J
open Go LM
variable {P:Nat→Option SFunc} [Has P]
def two (m:Nat) (s:Int):List Int:=[s,2*(m:Int)+1-s]
end LM.GZ.J
namespace LM.GZ.J
open Go LM
variable {P:Nat→Option SFunc} [Has P]
structure Rc where
 a:Str
 b:Str
 w:Int
def Rc.enc (x:Rc):CV:=.agg [.str x.a,.str x.b,ci x.w]
theorem Rc.elem (x:Rc):Elem (some 3) x.enc:=⟨_,rfl,rfl,by simp⟩
theorem Rc.elems (l:List Rc):∀ x ∈ l.map Rc.enc,Elem (some 3) x:=by
 intro x hx
 obtain⟨y,_,rfl⟩:=List.mem_map.1 hx
 exact y.elem
end LM.GZ.J
namespace LM.GZ.J
open Go LM
variable {P:Nat→Option SFunc} [Has P] [HasP P]
theorem F6 {n:Nat}:∀ (r pre:List Int),(pre++r).Nodup→(∀ y ∈ r,0≤y∧y<n)→aL (cq n) pre r=0
 | [],_,_,_=>rfl
 | x::r,pre,hn,hr=>by
  have hx:=hr x (by simp)
  have hp:pre.any (isI x)=false:=by
   rw[List.any_eq_false]
   intro y hy
   have:y≠x:=by
    intro e
    subst e
    have:=List.nodup_append.1 hn
    exact this.2.2 y hy y (by simp) rfl
   simp[isI,this]
  have h0:cq n pre x=0:=by
   unfold cq
   have:(decide (x<0) || decide (x ≥ (n:Int)))=false:=by simp; omega
   rw[this,hp]
   rfl
  rw[aL,if_neg (by simpa using h0)]
  exact F6 r (pre++[x]) (by simpa using hn) (fun y hy=>hr y (by simp[hy]))
theorem rB (n:Nat):(bi n).Nodup:=by
 unfold bi
 exact List.Pairwise.map _ (fun a b h=>by omega) List.nodup_range
theorem mf (n:Nat):∀ y ∈ bi n,0≤y∧y<n:=by
 intro y hy
 unfold bi at hy
 obtain⟨k,hk,rfl⟩:=List.mem_map.1 hy
 have:=List.mem_range.1 hk
 omega
theorem iM {n:Nat} {o:List Int} (h:o.Perm (bi n)):fk n o=0:=by
 have h1:=F6 (n:=n) o [] (by simpa using h.nodup_iff.2 (rB n)) (fun y hy=>mf n y (h.mem_iff.1 hy))
 have h2:=h.length_eq
 rw[bH] at h2
 unfold fk
 rw[if_neg (by simpa using h1)]
 simp[av,h2]
end LM.GZ.J
namespace LM.GZ.J
open Go LM
theorem I8 {l:List Stt} {M:Mi} {b:Str} (hG:Great l M b) {o:List Int} (h:o.Perm (bi l.length)):kS l≤bR (o.map (az l)):=by
 have h1:=(rC b (o.map (az l))).1
 have h2:=zT h b
 have h3:=hG.most
 have h4:=i8 (o.map (az l))
 have h5:=h.length_eq
 rw[bH] at h5
 unfold kS
 simp at h1
 omega
end LM.GZ.J
namespace LM.GZ.J
open Go LM
variable {P:Nat→Option SFunc} [Has P]
section
variable {α:Type} {enc:α→CV} {f:Nat} {B:List CV} {c:α→α→Int} {H:Heap} {b g:Nat} {cp:Option Nat}
theorem Yi (hE:CellOk enc) (hC:l6 P enc f B c) (hb:b<H.length) (hg:g≠0) (xs:List α) (n:Nat) (hn:n<20) (h:n=xs.length) :
  sfn P 141 [.slice b g 0 n none cp,.c (ci n),.c (.func f [] B)] (H.set b (.cells g (cA enc xs) 0))=some (.c (.tuple []),H.set b (.cells g (cA enc (aR (ltC c) [] xs)) 0)):=by
 have hs:=abh (P:=P) (cp:=cp) hE hC hb hg [] xs [] n (by omega) (by simpa using h)
 have h1:¬ (20:Int)≤n:=by omega
 have h2:¬ (20:Int)<n:=by omega
 have l0:∀ E,ac P (af P) og ⟨[.slice b g 0 n none cp,.c (ci n),.c (.func f [] B),.c (ci 20),.c (ci 0),.c (ci 20)],E⟩=some (.exit 0,⟨[.slice b g 0 n none cp,.c (ci n),.c (.func f [] B),.c (ci 20),.c (ci 0)],E⟩):=by
  intro E
  rw[P6]
  simp[mn,h1]
 have l2:∀ E,ac P (af P) oc ⟨[.slice b g 0 n none cp,.c (ci n),.c (.func f [] B),.c (ci 20)],E⟩=some (.exit 2,⟨[],E⟩):=by
  intro E
  rw[Qa]
  simp[mt,h2]
 simp[← h] at hs
 rw[abD]
 simp[Nm,l0,l2,hs,hb,jC,ax,bA,cw]
theorem UC (hE:CellOk enc) (hC:l6 P enc f B c) (hb:b<H.length) (hg:g≠0) (xs:List α) (n:Nat) (hn:n<20) (h:n=xs.length) :
  sfn P 68 [.slice b g 0 n none cp,.c (.func f [] B)] (H.set b (.cells g (cA enc xs) 0))=some (.c (.tuple []),H.set b (.cells g (cA enc (aR (ltC c) [] xs)) 0)):=by
 have hs:=Yi (P:=P) (cp:=cp) hE hC hb hg xs n hn h
 rw[u68]
 simp[c68,hs,hb,jC,ax,bA,cw]
end
theorem ab1 (l:List Stt) (hl:∀ x ∈ l,x.ok) (hs:(l.length:Int)<9223372036854775807) (hn:bm l=0→l.length<20) :
  (bm l=0→∃ M b,Great l M b∧fn P 17 [.slice (l.map Stt.enc)]=some (.tuple [.slice ((bG l M b).map ci),ci 0]))∧(bm l≠0→fn P 17 [.slice (l.map Stt.enc)]=some (.tuple [.slice [],ci (bm l)])):=by
 have e19:=S66 (P:=P) l hl hs
 refine⟨fun h1=>?_,fun h1=>?_⟩
 ·rw[h1] at e19
  have hnn:=hn h1
  obtain⟨M,b,hG,e102⟩:=S67 (P:=P) l (by omega)
  refine⟨M,b,hG,?_⟩
  obtain⟨F,hF⟩:=OQ l.length
  have hFl:F.length=l.length:=by have:=congrArg List.length hF; simpa[bH] using this
  have h0:=Zg (P:=P) l (by omega) b M l.length 0 (by omega)
  have s1:=UC (P:=P) (O7 l.length) (T8 l M) (H:=[LX l 1,.cells 1 [] 0,BX b 0,CX M 1,.dead]) (b:=4) (g:=1+l.length) (cp:=none) (by simp) (by omega) F l.length (by omega) hFl.symm
  have m1:(aR (ltC (jP l M)) [] F).map (fun i=>(i.val:Int))=aR (ltN l M) [] (bi l.length):=by
   rw[← hF]
   exact (mT (lt:=ltC (jP l M)) (lt':=ltN l M) (fun i:Fin l.length=>(i.val:Int)) (fun x y=>(QS l M x y).symm) [] F).symm
  have hF2l:(aR (ltC (jP l M)) [] F).length=l.length:=by rw[mW]; simpa using hFl
  have s2:=UC (P:=P) (O7 l.length) (TP l b) (H:=[LX l 1,.cells 1 [] 0,BX b 1,CX M 1,.dead]) (b:=4) (g:=1+l.length) (cp:=none) (by simp) (by omega) (aR (ltC (jP l M)) [] F) l.length (by omega) hF2l.symm
  have m2:(aR (ltC (oR l b)) [] (aR (ltC (jP l M)) [] F)).map (fun i=>(i.val:Int))=eo l M b:=by
   unfold eo
   rw[← m1]
   exact (mT (lt:=ltC (oR l b)) (lt':=ltO l b) (fun i:Fin l.length=>(i.val:Int)) (fun x y=>(P3 l b x y).symm) [] (aR (ltC (jP l M)) [] F)).symm
  rw[qj,qj,hF,m1] at s1
  rw[qj,qj,m1,m2] at s2
  obtain⟨hh1,hh2⟩:=oU hG
  have hol:=pJ l M b
  have hap:=(kT hG).length_eq
  rw[bH] at hap
  have hap' : (aW (eo l M b) (cy l M b) (cy l M b) 0).length=l.length:=hap
  have hc:=hG.cnt b
  have hcb:=dQ b l
  have e0:cI (bi 0)=[]:=rfl
  have hk:cP (.one 1) (CV.str b)=true:=rfl
  have erep:List.replicate l.length (LV.c (CV.int .i64 0))=cI (List.replicate l.length 0):=by simp[cI]
  obtain⟨pad1,i1,a1⟩:=YH (P:=P) l b M 1 1 1 (1+l.length) (eo l M b) hol (cy l M b) hh1 (by omega) (cy l M b) 0 [] (List.replicate l.length 0) (by omega) (by simp) (by simp; omega) (by simp)
  obtain⟨pad2,i2,a2⟩:=Yt (P:=P) l b M 1 1 1 (1+l.length) (eo l M b) hol (cy l M b) hh1 (by omega) (cy l M b) 0 [] (List.replicate l.length 0) (by omega) (by simp) (by simp; omega) (by simp)
  have p1:pad1=[]:=by rw[hap'] at i1; simpa using i1
  have p2:pad2=[]:=by rw[hap'] at i2; simpa using i2
  subst p1
  subst p2
  have hA:aW (eo l M b) (cy l M b) (cy l M b) 0=bG l M b:=rfl
  rw[hA] at a1 a2
  have hr:=fun X0 X1 X2 X3 X4=>lU (b:=5) (g:=1) (fz:=0) (e:=none) (ys:=(bG l M b).map ci) (h:=[X0,X1,X2,X3,X4,.cells 1 (cI (bG l M b)) 0]) (len:=l.length) (by rw[bk]; rfl) (dD _) (by simp[hap]) (some l.length) (ci 0)
  simp only[e0] at h0
  simp only[List.nil_append] at a1 a2
  rw[← erep] at a1 a2
  simp[hap] at a1 a2 h0
  simp only[LX,BX,CX,mEn] at *
  simp only[List.set_cons_succ,List.set_cons_zero] at s1 s2
  have k1:(l.length:Int)≤9223372036854775807:=by omega
  have k2:(l.length:Int)*8≤140737488355328:=by omega
  have w1:IntKind.i64.wrap (2*cntS b l)=2*cntS b l:=am (by omega) (by omega)
  have w2:IntKind.i64.wrap ((l.length:Int)+1)=(l.length:Int)+1:=am (by omega) (by omega)
  have w0:IntKind.i64.wrap 0=0:=rfl
  have t2:((l.length:Int)+1).tdiv 2=(((l.length+1) / 2:Nat):Int):=rfl
  have w4:IntKind.i64.wrap (((l.length+1) / 2:Nat):Int)=(((l.length+1) / 2:Nat):Int):=am (by omega) (by omega)
  rw[u17]
  by_cases hq:2*cntS b l > l.length+1
  ·have hh:(cy l M b:Int)=cntS b l:=by unfold cy; rw[hc,if_pos hq]; omega
   rw[hh] at a1
   have hq' : (l.length:Int)+1<2*cntS b l:=hq
   rcases lN b M with ⟨f1,e1⟩ | ⟨i,f1,e1⟩
   ·omega
   ·rw[hc] at e1
    obtain⟨_,e1'⟩:=List.getElem?_eq_some_iff.1 e1
    simp[c17,lJ,e19,e102,h0,s1,s2,ax,bA,cw,iZ,mc,k1,k2,hk,f1,e1,e1',w1,w2,hq',a1,hr]
  ·have hh:cy l M b=(l.length+1) / 2:=by unfold cy; rw[hc,if_neg hq]
   rw[hh] at a2
   have hq' : ¬ (l.length:Int)+1<2*cntS b l:=hq
   generalize (l.length+1) / 2=q at *
   rcases lN b M with ⟨f1,e1⟩ | ⟨i,f1,e1⟩
   ·have hq2:¬ (l.length:Int)+1<0:=by omega
    simp[c17,lJ,e19,e102,h0,s1,s2,ax,bA,cw,iZ,mc,k1,k2,hk,f1,w0,w2,hq2,t2,w4,a2,hr]
   ·rw[hc] at e1
    obtain⟨_,e1'⟩:=List.getElem?_eq_some_iff.1 e1
    simp[c17,lJ,e19,e102,h0,s1,s2,ax,bA,cw,iZ,mc,k1,k2,hk,f1,e1,e1',w1,w2,hq',t2,w4,a2,hr]
 ·rw[u17]
  simp[c17,e19,h1]
end LM.GZ.J
namespace LM.GZ
open Go LM J
variable {P:Nat→Option SFunc} [Has P] [HasP P]
def kM (l:List Stt) (m:Int) (os:List (List Int)):Int:=os.foldl (fun m o=>min m (bR (o.map (az l)))) m
def lX (os:List (List Int)):List CV:=os.map fun o=>.slice (o.map ci)
theorem abF (l:List Stt) (hl:∀ x ∈ l,x.ok) (h5:l.length≤5) (hz:bm l=0) (A few B:CV) (H:List CV) (O:List (List Int)) (hO:O.length<1000) (hp:∀ o ∈ O,o.Perm (bi l.length)):∀ (r pre:List (List Int)) (m:Int),O=pre++r →
  ac P (af P) Ha ⟨[.c (.slice (l.map Stt.enc)),.c A,.c few,.c (ci m),.c (.slice (lX O)),.c (ci O.length),.c (ci pre.length)],[.cells (1+l.length) (cellsOf (l.map Stt.enc)) 0]⟩
   = some (.exit 2,⟨[.c (.slice (l.map Stt.enc)),.c A,.c few,.c (ci (kM l m r))],[.cells (1+l.length) (cellsOf (l.map Stt.enc)) 0]⟩):=by
 intro r
 induction r with
 | nil =>
  intro pre m h
  have h:O=pre:=by simpa using h
  subst h
  rw[Pc]
  simp[nF,kM]
 | cons o r ih =>
  intro pre m h
  have ih:=ih (pre++[o]) (min m (bR (o.map (az l)))) (by simp[h])
  have hpo:=hp o (by rw[h]; simp)
  have hol:o.length=l.length:=by rw[hpo.length_eq,bH]
  have e21:=S21 (P:=P) l o hl (by omega) (by omega) (by omega)
  have hN:fN l o=0:=by unfold fN; rw[hz,iM hpo]; rfl
  rw[hN] at e21
  have gx:O[pre.length]? = some o:=by rw[h]; simp
  obtain⟨hpl,gx'⟩:=List.getElem?_eq_some_iff.1 gx
  have hw:IntKind.i64.wrap ((pre.length:Int)+1)=(pre.length:Int)+1:=am (by omega) (by omega)
  have hlt:(pre.length:Int)<O.length:=by omega
  have hm:∀ x y:Int,(if y<x then y else x)=min x y:=fun x y=>by split<;>omega
  have hu:=bx 1 (l.map Stt.enc)
  have hOl:(lX O).length=O.length:=by simp[lX]
  have gy:(lX O)[pre.length]? = some (.slice (o.map ci)):=by simp[lX,gx]
  obtain⟨hpl2,gy'⟩:=List.getElem?_eq_some_iff.1 gy
  simp at e21 ih
  unfold kM at ih ⊢
  rw[List.foldl_cons]
  generalize l.map Stt.enc=E at *
  generalize lX O=OC at *
  rw[Pc]
  simp[nF,hlt,hpl,hpl2,hOl,gy,gy',e21,hw,hu,bt,hm,ih]
theorem Dg (l:List Stt):∀ (os:List (List Int)) (m:Int),kM l m os≤m∧(∀ o ∈ os,kM l m os≤bR (o.map (az l)))∧(kM l m os=m∨∃ o ∈ os,kM l m os=bR (o.map (az l)))
 | [],m=>⟨Int.le_refl _,by simp,.inl rfl⟩
 | o::os,m=>by
  obtain⟨h1,h2,h3⟩:=Dg l os (min m (bR (o.map (az l))))
  have e:kM l m (o::os)=kM l (min m (bR (o.map (az l)))) os:=rfl
  rw[e]
  refine⟨by omega,fun x hx=>?_,?_⟩
  ·rcases List.mem_cons.1 hx with rfl | hx
   ·omega
   ·exact h2 x hx
  ·rcases h3 with h3 | ⟨x,hx,h3⟩
   ·by_cases q:m≤bR (o.map (az l))
    ·exact .inl (by rw[h3]; omega)
    ·exact .inr ⟨o,by simp,by rw[h3]; omega⟩
   ·exact .inr ⟨x,by simp[hx],h3⟩
theorem Ma {l:List Stt} {M:Mi} {b:Str} (hG:Great l M b):kM l l.length (bL l.length)=kS l:=by
 obtain⟨h1,h2,h3⟩:=Dg l (bL l.length) l.length
 have hperm:=kT hG
 have ha:=h2 _ (A2 l.length _ hperm)
 have hadj:=uY hG
 have hb:=(i8 ((bG l M b).map (az l))).2
 rw[List.length_map,hperm.length_eq,bH] at hb
 rcases h3 with h3 | ⟨o,ho,h3⟩
 ·omega
 ·have:=I8 hG (kD _ _ ho)
  omega
theorem Cc (o:List Int):(fF o).Perm o:=by
 unfold fF
 refine List.perm_append_comm.trans ?_
 rw[List.take_append_drop]
theorem uH:∀ (r pre:List Int),(pre++r).Nodup→(∀ y ∈ r,0≤y∧y<5)→aL iC pre r=0
 | [],_,_,_=>rfl
 | x::r,pre,hn,hr=>by
  have hx:=hr x (by simp)
  have hp:pre.any (isI x)=false:=by
   rw[List.any_eq_false]
   intro y hy
   have:y≠x:=by
    intro e
    subst e
    have:=List.nodup_append.1 hn
    exact this.2.2 y hy y (by simp) rfl
   simp[isI,this]
  have h0:iC pre x=0:=by
   unfold iC aF
   have:(decide (x<0) || decide (999999999<x))=false:=by simp; omega
   simp[hp,this,av,aq]
  rw[aL,if_neg (by simpa using h0)]
  exact uH r (pre++[x]) (by simpa using hn) (fun y hy=>hr y (by simp[hy]))
theorem IE {n:Nat} {o:List Int} (h5:n≤5) (h:o.Perm (bi n)):qN o=0:=by
 have hl:=h.length_eq
 rw[bH] at hl
 unfold qN
 rw[if_neg (by omega)]
 exact uH o [] (by simpa using h.nodup_iff.2 (rB n)) fun y hy=>by
  have:=mf n y (h.mem_iff.1 hy)
  omega
end LM.GZ
namespace LM.GZ
open Go LM J
variable {P:Nat→Option SFunc} [Has P] [HasP P]
def hpN (E:List CV) (n:Nat) (A X:List CV) (ns:List Str):Heap:=[.cells (1+n) (cellsOf E) 0,.cells 1 [.c (.slice A),.c (.slice X)] 0,.cells 0 [.c (.str [108,101,97,100]),.slice 4 ns.length 0 ns.length none none,.c (ci 3),.c (ci 1000)] 0,.dead,.cells ns.length (cellsOf (ns.map CV.str)) 0]
theorem aap (L:List Stt) (hL:L.length≤5) (n:Nat) (A X:List CV) (O:CV) (k:Int):∀ (r pre:List Stt),L=pre++r→pre≠[] →
  ac P (af P) vD ⟨[.c (.slice (L.map Stt.enc)),.c O,.ptr 2 0 0,.slice 1 1 0 2 none (some 2),.c (ci 2),.c (ci k),.c (ci L.length),.c (ci pre.length)],hpN (L.map Stt.enc) n A X (pre.map Stt.name)⟩
   = some (.exit 6,⟨[.c (.slice (L.map Stt.enc)),.c O,.ptr 2 0 0,.slice 1 1 0 2 none (some 2),.c (ci 2),.c (ci k)],hpN (L.map Stt.enc) n A X (L.map Stt.name)⟩):=by
 intro r
 induction r with
 | nil =>
  intro pre h _
  have h:L=pre:=by simpa using h
  subst h
  rw[GJ]
  simp[kX,hpN]
 | cons x r ih =>
  intro pre h hne
  have ih:=ih (pre++[x]) (by simp[h]) (by simp)
  have gx:L[pre.length]? = some x:=by rw[h]; simp
  obtain⟨hpl,gx'⟩:=List.getElem?_eq_some_iff.1 gx
  have hw:IntKind.i64.wrap ((pre.length:Int)+1)=(pre.length:Int)+1:=am (by omega) (by omega)
  have hlt:(pre.length:Int)<L.length:=by omega
  have ha:=fun X0 X1 X2 X3 X5 X6=>iP (some 6) (b:=4) (g:=pre.length) (bytes:=16) (e:=none) (ys:=(pre.map Stt.name).map CV.str) (xs:=[CV.str x.name]) (h:=[X0,X1,X2,X3,.cells pre.length (cellsOf ((pre.map Stt.name).map CV.str)) 0,X5,X6]) (len:=pre.length) (fz:=0) rfl (l8 _) (l8 [x.name]) (by simp) (Nat.zero_le _) (by simp) (by simp; omega) (by simp; omega)
  have hu:=bx 5 ((pre.map Stt.name).map CV.str++[CV.str x.name])
  have hu0:=bx 5 (L.map Stt.enc)
  have gE:(L.map Stt.enc)[pre.length]? = some x.enc:=by simp[gx]
  obtain⟨hpE,gE'⟩:=List.getElem?_eq_some_iff.1 gE
  simp only[hpN,List.map_append,List.map_cons,List.map_nil,List.length_append,List.length_cons,List.length_nil,List.length_map] at ih ha hu ⊢
  generalize L.map Stt.enc=E at *
  generalize (pre.map Stt.name).map CV.str=D at *
  simp only[Stt.enc] at gE gE'
  rw[GJ]
  simp at ih ha hu
  simp[kX,hlt,hpl,hpE,gE,gE',ha,hw,hu,hu0]
  exact⟨hne,ih⟩
def hpM (E:List CV) (n:Nat) (A X:List CV):Heap:=[.cells (1+n) (cellsOf E) 0,.cells 1 [.c (.slice A),.c (.slice X)] 0,.cells 0 [.c (.str [108,101,97,100]),.nil,.c (ci 3),.c (ci 1000)] 0]
theorem Yv (L:List Stt) (hL:L.length≤5) (hne:L≠[]) (n:Nat) (A X:List CV) (O:CV) (k:Int) :
  ac P (af P) vD ⟨[.c (.slice (L.map Stt.enc)),.c O,.ptr 2 0 0,.slice 1 1 0 2 none (some 2),.c (ci 2),.c (ci k),.c (ci L.length),.c (ci 0)],hpM (L.map Stt.enc) n A X⟩
   = some (.exit 6,⟨[.c (.slice (L.map Stt.enc)),.c O,.ptr 2 0 0,.slice 1 1 0 2 none (some 2),.c (ci 2),.c (ci k)],hpN (L.map Stt.enc) n A X (L.map Stt.name)⟩):=by
 rcases L with _ | ⟨x,r⟩
 ·exact absurd rfl hne
 ·have hs:=aap (P:=P) (x::r) hL n A X O k r [x] rfl (by simp)
  have ha:∀ X0 X1 X2,aN (some 4) none 16 .nil (.c (.slice [.str x.name])) [X0,X1,X2,.dead,.dead]=some (.slice 4 1 0 1 none none,[X0,X1,X2,.dead,.cells 1 [.c (.str x.name)] 0]):=fun _ _ _=>rfl
  have gE:((x::r).map Stt.enc)[0]? = some x.enc:=rfl
  obtain⟨hpE,gE'⟩:=List.getElem?_eq_some_iff.1 gE
  have hlt:(0:Int)<(x::r).length:=by simp
  have hc1:cellsOf (([x].map Stt.name).map CV.str)=[.c (.str x.name)]:=rfl
  have w1:IntKind.i64.wrap 1=1:=rfl
  have hlE:((x::r).map Stt.enc).length=(x::r).length:=by simp
  simp only[hpN,hpM] at hs ⊢
  rw[hc1] at hs
  generalize (x::r).map Stt.enc=E at *
  generalize (x::r).length=N at *
  simp only[Stt.enc] at gE gE'
  rw[GJ]
  simp at hs hlt
  simp[kX,hlt,hpE,gE,gE',ha,w1]
  exact hs
theorem Li {n:Nat} (h:n≤5):gh n 0 2000 [500]=0:=by
 have:n=0∨n=1∨n=2∨n=3∨n=4∨n=5:=by omega
 rcases this with rfl | rfl | rfl | rfl | rfl | rfl<;>decide
def kK (i:Nat) (k:Int):List EnR:=[⟨k,[115,116,97,114,116],0,2000*i⟩,⟨k,[102,97,108,108],0,2000*i+700⟩]
def c5:Nat→List Int→List EnR
 | _,[]=>[]
 | i,k::o=>kK i k++c5 (i+1) o
theorem xK:∀ (o:List Int) (i:Nat) (x:Int),c5 i (o++[x])=c5 i o++kK (i+o.length) x
 | [],i,x=>by simp[c5]
 | y::o,i,x=>by
  rw[List.cons_append,c5,xK o (i+1) x,c5,List.append_assoc,List.length_cons]
  congr 3
  omega
theorem eq:∀ (o:List Int) (i:Nat),(c5 i o).length=2*o.length
 | [],i=>rfl
 | y::o,i=>by
  rw[c5,List.length_append,eq o (i+1),List.length_cons]
  simp[kK]
  omega
theorem adj (E:List CV) (n:Nat) (A X:List CV) (ns:List Str) (k:Int) (o:List Int) (ho:o.length=n) (h5:n≤5):∀ (r pre:List Int),o=pre++r →
  ac P (af P) GE ⟨[.c (.slice E),.ptr 2 0 0,.c (.slice ((bP 0 2000 500 n).map Pr.enc)),.slice 5 (1+pre.length) 0 (2*pre.length) (some 4) none,.slice 1 1 0 2 none (some 2),.c (ci 2),.c (ci k),.c (.slice (o.map ci)),.c (ci o.length),.c (ci pre.length)],hpN E n A X ns++[.cells (1+pre.length) (cellsOf ((c5 0 pre).map EnR.enc)) 0]⟩
   = some (.exit 8,⟨[.c (.slice E),.ptr 2 0 0,.slice 5 (1+o.length) 0 (2*o.length) (some 4) none,.slice 1 1 0 2 none (some 2),.c (ci 2),.c (ci k)],hpN E n A X ns++[.cells (1+o.length) (cellsOf ((c5 0 o).map EnR.enc)) 0]⟩):=by
 intro r
 induction r with
 | nil =>
  intro pre h
  have h:o=pre:=by simpa using h
  subst h
  rw[O4]
  simp[mU,hpN]
 | cons x r ih =>
  intro pre h
  have ih:=ih (pre++[x]) (by simp[h])
  have gx:o[pre.length]? = some x:=by rw[h]; simp
  obtain⟨hpl,gx'⟩:=List.getElem?_eq_some_iff.1 gx
  have hw:IntKind.i64.wrap ((pre.length:Int)+1)=(pre.length:Int)+1:=am (by omega) (by omega)
  have hlt:(pre.length:Int)<o.length:=by omega
  have gc:((bP 0 2000 500 n).map Pr.enc)[pre.length]? = some (.agg [ci (max 0 (2000*pre.length-500)),ci (2000*pre.length)]):=by
   have:(List.range n)[pre.length]? = some pre.length:=by rw[List.getElem?_range (by omega)]
   simp[bP,this,nW,Pr.enc]
   constructor<;>omega
  obtain⟨hpc,gc'⟩:=List.getElem?_eq_some_iff.1 gc
  have hcl:(bP 0 2000 500 n).length=n:=by simp[bP]
  have hltc:(pre.length:Int)<n:=by omega
  have w7:IntKind.i64.wrap (2000*(pre.length:Int)+700)=2000*pre.length+700:=am (by omega) (by omega)
  have ha:=fun X0 X1 X2 X3 X4 X6 X7=>iP (some 7) (b:=5) (g:=1+pre.length) (bytes:=40) (e:=some 4) (ys:=(c5 0 pre).map EnR.enc) (xs:=(kK pre.length x).map EnR.enc) (h:=[X0,X1,X2,X3,X4,.cells (1+pre.length) (cellsOf ((c5 0 pre).map EnR.enc)) 0,X6,X7]) (len:=2*pre.length) (fz:=0) rfl (EnR.elems _) (EnR.elems _) (by rw[List.length_map,eq]) (Nat.zero_le _) (by simp[kK]) (by rw[List.length_map,eq]; simp[kK]; omega) (by rw[List.length_map,eq]; simp[kK]; omega)
  have hu:=bx 6 ((c5 0 pre).map EnR.enc++(kK pre.length x).map EnR.enc)
  have hu0:=bx 6 E
  have hu1:=bx 6 (ns.map CV.str)
  have e1:1+(pre.length+1)=1+pre.length+1:=by omega
  have e2:2*(pre.length+1)=2*pre.length+2:=by omega
  rw[List.length_append,List.length_singleton,xK,Nat.zero_add,List.map_append] at ih
  generalize (c5 0 pre).map EnR.enc=D at *
  generalize (bP 0 2000 500 n).map Pr.enc=C at *
  simp only[kK,EnR.enc,List.map_cons,List.map_nil,hpN] at ih ha hu ⊢
  rw[O4]
  rw[e1,e2] at ih
  simp at ih ha hu
  simp[mU,hlt,hltc,hpl,hpc,gx,gx',gc,gc',w7,ha,hw,hu,hu0,hu1]
  exact ih
theorem nr (v:LV) (l:List LV) (h:Heap):aD false (v::l) h=bnd (frz ay v h) fun a=>bnd (aD false l a.2) fun b=>some (a.1::b.1,b.2):=by
 exact bh _ _ _ _
def hp6 (E:List CV) (n:Nat) (A X:List CV) (NS D:List CV) (m g f4 f5:Nat):Heap:=[.cells (1+n) (cellsOf E) 0,.cells 1 [.c (.slice A),.c (.slice X)] 0,.cells 0 [.c (.str [108,101,97,100]),.slice 4 m 0 m none none,.c (ci 3),.c (ci 1000)] 0,.dead,.cells m (cellsOf NS) f4,.cells g (cellsOf D) f5]
variable {E A X NS D:List CV} {n m g f4 f5:Nat} {TL:Heap}
theorem fz5 (hD:∀ x ∈ D,Elem (some 4) x) {k:Nat} (hk:k=D.length):frz ay (.slice 5 g 0 k (some 4) none) (hp6 E n A X NS D m g f4 f5++TL)=some (.slice D,hp6 E n A X NS D m g f4 (Nat.max f5 (k*4))++TL):=lz (b:=5) (g:=g) (fz:=f5) (e:=some 4) (ys:=D) rfl hD hk none
theorem fz4 (hN:∀ x ∈ NS,Elem none x) (hm:m=NS.length):frz 39 (.slice 4 m 0 m none none) (hp6 E n A X NS D m g f4 f5++TL)=some (.slice NS,hp6 E n A X NS D m g (Nat.max f4 m) f5++TL):=by
 have:=kA (b:=4) (g:=m) (fz:=f4) (e:=none) (ys:=NS) (h:=hp6 E n A X NS D m g f4 f5++TL) (len:=m) rfl hN hm none
 rw[this]
 show some (_,_)=some (_,_)
 have e:m*ae none=m:=by show m*1=m; omega
 rw[e]
 rfl
def rdV (NS:List CV):CV:=.agg [.str [108,101,97,100],.slice NS,ci 3,ci 1000]
theorem fzR (hN:∀ x ∈ NS,Elem none x) (hm:m=NS.length):frz ay (.agg [.c (.str [108,101,97,100]),.slice 4 m 0 m none none,.c (ci 3),.c (ci 1000)]) (hp6 E n A X NS D m g f4 f5++TL)=some (rdV NS,hp6 E n A X NS D m g (Nat.max f4 m) f5++TL):=by
 rw[nN,bh,ep,ak,bh,fz4 hN hm,ak,bh,ep,ak,bh,ep,ak,io]
 rfl
theorem Pb (hN:∀ x ∈ NS,Elem none x) (hm:m=NS.length) (v:CV):aD false [.agg [.c (.str [108,101,97,100]),.slice 4 m 0 m none none,.c (ci 3),.c (ci 1000)],.c v] (hp6 E n A X NS D m g f4 f5++TL)=some ([rdV NS,v],hp6 E n A X NS D m g (Nat.max f4 m) f5++TL):=by
 rw[nr,fzR hN hm,ak,Ie,oB]
 rfl
theorem Y0 (hN:∀ x ∈ NS,Elem none x) (hm:m=NS.length) (hD:∀ x ∈ D,Elem (some 4) x) {k:Nat} (hk:k=D.length):aD false [.agg [.c (.str [108,101,97,100]),.slice 4 m 0 m none none,.c (ci 3),.c (ci 1000)],.slice 5 g 0 k (some 4) none] (hp6 E n A X NS D m g f4 f5++TL)=some ([rdV NS,.slice D],hp6 E n A X NS D m g (Nat.max f4 m) (Nat.max f5 (k*4))++TL):=by
 rw[nr,fzR hN hm,ak,nr,fz5 hD hk,ak,oB]
 rfl
theorem R4 (l:List Stt) (h5:l.length≤5) (hne:l≠[]) (A X o:List Int) (k:Nat) (hk:k<2) (ho:(if k=0 then A else X)=o) (hol:o.length=l.length) {T:Int} {CC:List CV} (e24:fn P 24 [rdV ((l.map Stt.name).map CV.str),.slice ((c5 0 o).map EnR.enc)]=some (ci 0)) (e26:fn P 26 [rdV ((l.map Stt.name).map CV.str),.slice ((c5 0 o).map EnR.enc)]=some (.tuple [.agg [ci T,.slice CC],.slice [],ci 0])) (e27:fn P 27 [rdV ((l.map Stt.name).map CV.str),.agg [ci T,.slice CC]]=some (.tuple [.slice [],ci 0])) (B0:LB) (hB:B0=.cells (1+l.length) (cellsOf (l.map Stt.enc)) 0) :
  ac P (af P) ko ⟨[.c (.slice (l.map Stt.enc)),.slice 1 1 0 2 none (some 2),.c (ci 2),.c (ci k)],[B0,.cells 1 [.c (.slice (A.map ci)),.c (.slice (X.map ci))] 0]⟩
   = ac P (af P) ko ⟨[.c (.slice (l.map Stt.enc)),.slice 1 1 0 2 none (some 2),.c (ci 2),.c (ci (k+1))],[B0,.cells 1 [.c (.slice (A.map ci)),.c (.slice (X.map ci))] 0]⟩:=by
 have hk1:(k:Int)<2:=by omega
 have gx:[LV.c (.slice (A.map ci)),.c (.slice (X.map ci))][k]? = some (.c (.slice (o.map ci))):=by
  have:k=0∨k=1:=by omega
  rcases this with rfl | rfl
  ·simp at ho; rw[ho]; rfl
  ·simp at ho; rw[ho]; rfl
 obtain⟨hpl,gx'⟩:=List.getElem?_eq_some_iff.1 gx
 have h2:=Yv (P:=P) l h5 hne l.length (A.map ci) (X.map ci) (.slice (o.map ci)) k
 have e23:=S23 (P:=P) l.length 0 2000 500
 rw[Li h5] at e23
 simp at e23
 have hEl:(l.map Stt.enc).length=l.length:=by simp
 conv=>lhs; rw[O3]
 subst hB
 generalize hE:l.map Stt.enc=E at *
 simp only[hpM,hpN] at h2
 have hcl:(bP 0 2000 500 l.length).length=l.length:=by simp[bP]
 have h3:=adj (P:=P) E l.length (A.map ci) (X.map ci) (l.map Stt.name) k o hol h5 o [] rfl
 have hc0:cellsOf ((c5 0 []).map EnR.enc)=[]:=rfl
 rw[hc0] at h3
 have hNE:∀ x ∈ (l.map Stt.name).map CV.str,Elem none x:=l8 _
 have hNl:l.length=((l.map Stt.name).map CV.str).length:=by simp
 have hDE:∀ x ∈ (c5 0 o).map EnR.enc,Elem (some 4) x:=EnR.elems _
 have hDl:2*o.length=((c5 0 o).map EnR.enc).length:=by rw[List.length_map,eq]
 have e25:=S25 (P:=P) (c5 0 o) (by rw[eq]; omega)
 have hNM:(l.map Stt.name).length=l.length:=by simp
 generalize l.map Stt.name=NM at *
 generalize hNS:NM.map CV.str=NS at *
 generalize hDD:(c5 0 o).map EnR.enc=D at *
 have w0:IntKind.i64.wrap 0=0:=rfl
 simp only[hpN,List.length_nil,Nat.mul_zero,Nat.add_zero,List.cons_append,List.nil_append] at h2 h3
 rw[hNS] at h3
 rw[hNM] at h2 h3
 simp at h2 h3
 have q1:=fz5 (E:=E) (n:=l.length) (A:=A.map ci) (X:=X.map ci) (NS:=NS) (m:=l.length) (g:=1+o.length) (f4:=0) (f5:=0) (TL:=[]) hDE hDl
 have q2:=Pb (E:=E) (n:=l.length) (A:=A.map ci) (X:=X.map ci) (D:=D) (g:=1+o.length) (f4:=0) (f5:=Nat.max 0 (2*o.length*4)) (TL:=[]) hNE hNl (.slice D)
 have q3:=Y0 (E:=E) (n:=l.length) (A:=A.map ci) (X:=X.map ci) (g:=1+o.length) (f4:=0) (f5:=Nat.max 0 (2*o.length*4)) (TL:=[]) hNE hNl hDE hDl
 have q4:=Pb (E:=E) (n:=l.length) (A:=A.map ci) (X:=X.map ci) (D:=D) (g:=1+o.length) (f4:=Nat.max 0 l.length) (f5:=Nat.max (Nat.max 0 (2*o.length*4)) (2*o.length*4)) (TL:=[.cells 0 [.c (ci T),.c (.slice CC)] 0]) hNE hNl (.agg [ci T,.slice CC])
 simp only[hp6,List.append_nil,List.cons_append,List.nil_append] at q1 q2 q3 q4
 have m1:Nat.max 0 (2*o.length*4)=2*o.length*4:=Nat.zero_max _
 have m2:Nat.max 0 l.length=l.length:=Nat.zero_max _
 have m3:Nat.max l.length l.length=l.length:=Nat.max_self _
 have m4:Nat.max (2*o.length*4) (2*o.length*4)=2*o.length*4:=Nat.max_self _
 rw[m1] at q1 q2 q3 q4
 rw[m2] at q2 q3 q4
 rw[m4] at q3 q4
 rw[m3] at q4
 simp only[rdV] at *
 simp[nD,hk1,hk,gx,gx',h2,hEl,e23,hcl,w0,h3,-cL,-bump,q1,q2,q3,q4,e24,e25,e26,e27]
 have hw:IntKind.i64.wrap ((k:Int)+1)=(k:Int)+1:=am (by omega) (by omega)
 rw[hw]
end LM.GZ
namespace LM.GZ
open Go LM
variable {P:Nat→Option SFunc} [Has P]
def kdL:List Str:=kdAll.map kdS
theorem acb:fn P 147 [.str []]=some (.slice (kdL.map CV.str)):=by
 rw[adb]
 simp[Ol]
 rfl
theorem Uh (s:Str) (l:List Str) (h:(l.length:Int)<9223372036854775807):fn P 146 [.str s,.slice (l.map CV.str)]=some (.bool (l.any (Str.is s))):=by
 have:=S36 (P:=P) s l h
 rw[abT]
 simp[L9,this,-List.any_eq_true]
def valK:List Str:=[kdS .start,kdS .hold,kdS .finish]
def gP (n:Nat) (e:EnR):Int :=
 if aF e.who 0 ((n:Int)-1)=true then 10 else if kdL.any (Str.is e.kind)=false then 13 else
 if (aF e.val 0 86399999 || aF e.time 0 86399999)=true then 3 else if e.val≠0∧valK.any (Str.is e.kind)=false then 1 else 0
theorem S79 (X:RdR) (e:EnR) (hl:(X.names.length:Int)<9223372036854775807):fn P 79 [X.enc,e.enc]=some (ci (gP X.names.length e)):=by
 have e147:=acb (P:=P)
 have e146:=Uh (P:=P) e.kind kdL (by decide)
 have e146v:=Uh (P:=P) e.kind valK (by decide)
 have e1:=AB (P:=P) e.who 0 ((X.names.length:Int)-1)
 have e2:=AB (P:=P) e.val 0 86399999
 have e3:=AB (P:=P) e.time 0 86399999
 have hw:IntKind.i64.wrap ((X.names.length:Int)-1)=(X.names.length:Int)-1:=am (by omega) (by omega)
 rw[u79]
 unfold gP
 unfold RdR.enc EnR.enc
 have hv:valK.map CV.str=[.str [115,116,97,114,116],.str [104,111,108,100],.str [102,105,110,105,115,104]]:=rfl
 rw[hv] at e146v
 generalize kdL.map CV.str=KL at *
 generalize kdL.any (Str.is e.kind)=B1 at *
 generalize valK.any (Str.is e.kind)=B2 at *
 cases o1:aF e.who 0 ((X.names.length:Int)-1)
 ·rw[o1] at e1
  cases B1
  ·simp[c79,hw,e1,e147,e146]
  ·cases o2:aF e.val 0 86399999
   ·rw[o2] at e2
    cases o3:aF e.time 0 86399999
    ·rw[o3] at e3
     by_cases h0:e.val=0
     ·rw[h0] at e2
      simp[c79,hw,e1,e147,e146,e2,e3,h0]
     ·cases B2
      ·simp[c79,hw,e1,e147,e146,e2,e3,h0,e146v]
      ·simp[c79,hw,e1,e147,e146,e2,e3,h0,e146v]
    ·rw[o3] at e3
     simp[c79,hw,e1,e147,e146,e2,e3]
   ·rw[o2] at e2
    simp[c79,hw,e1,e147,e146,e2]
 ·rw[o1] at e1
  simp[c79,hw,e1]
def G1 (X:RdR) (l:List EnR):Int:=if ka X=0 then if l.length > 256 then 5 else aL (fun _ e=>gP X.names.length e) [] l else ka X
theorem L24 (X:RdR) (hl:(X.names.length:Int)<9223372036854775807):∀ (r pre:List EnR),((pre++r).length:Int)<9223372036854775807 →
  ac P (af P) qm ⟨[.c (.slice ((pre++r).map EnR.enc)),.ptr 0 0 0,.c (ci pre.length)],[X.B]⟩=if aL (fun _ e=>gP X.names.length e) pre r=0 then some (.exit 0,⟨[],[X.B]⟩) else some (.ret,⟨[.c (ci (aL (fun _ e=>gP X.names.length e) pre r))],[X.B]⟩):=by
 intro r
 induction r with
 | nil =>
  intro pre h
  rw[It]
  simp[jh,aL]
 | cons e r ih =>
  intro pre h
  have ih:=ih (pre++[e]) (by simpa using h)
  have e79:=S79 (P:=P) X e hl
  have hw:IntKind.i64.wrap (↑pre.length+1)=↑pre.length+1:=by simp at h; exact am (by omega) (by omega)
  have hlt:(pre.length:Int)<pre.length+(r.length+1):=by omega
  simp[EnR.enc] at ih h
  unfold RdR.enc EnR.enc at e79
  unfold RdR.B at ih ⊢
  rw[It]
  rw[aL]
  generalize gP X.names.length e=v at *
  by_cases h0:v=0
  ·subst h0
   simp[jh,hw,hlt,EnR.enc,e79,ih]
  ·simp[jh,hw,hlt,EnR.enc,e79,h0]
theorem S24 (X:RdR) (l:List EnR) (hl:(X.names.length:Int)<9223372036854775807) (hok:∀ s ∈ X.names,s.length<9223372036854775807) (h:(l.length:Int)<9223372036854775807):fn P 24 [X.enc,.slice (l.map EnR.enc)]=some (ci (G1 X l)):=by
 have e78:=S78 (P:=P) X hl hok
 have hL:=L24 (P:=P) X hl l [] (by simpa using h)
 unfold RdR.B at hL
 simp at hL
 rw[u24]
 unfold G1
 unfold RdR.enc at e78 ⊢
 by_cases h0:ka X=0
 ·rw[h0] at e78
  by_cases h1:256<l.length
  ·have h1' : (256:Int)<l.length:=by omega
   simp[c24,e78,h0,h1,h1']
  ·have h1' : ¬ (256:Int)<l.length:=by omega
   by_cases h2:aL (fun _ e=>gP X.names.length e) [] l=0
   ·rw[if_pos h2] at hL
    simp[c24,e78,h0,h1,h1',hL,h2]
   ·rw[if_neg h2] at hL
    simp[c24,e78,h0,h1,h1',hL]
 ·simp[c24,e78,h0]
end LM.GZ
namespace LM.GZ
open Go LM
theorem QD (k:CKd):valK.any (Str.is (kdS k))=jH k:=by cases k<;>decide
end LM.GZ
namespace LM.GZ
open Go LM J
variable {P:Nat→Option SFunc} [Has P] [HasP P]
def leK (r:CRn) (e:CEn):Prop:=r.dc=.lead∧(e.kind=.start∨e.kind=.fall)
theorem le_rn:RnV leR:=⟨by decide,by decide⟩
theorem uR:∀ (o:List Int) (i:Nat),(∀ k ∈ o,0≤k)→(df i (o.map Int.toNat)).map enE=(c5 i o).map EnR.enc
 | [],_,_=>rfl
 | k::o,i,h=>by
  have hk:((k.toNat:Nat):Int)=k:=Int.toNat_of_nonneg (h k (by simp))
  have ih:=uR o (i+1) fun x hx=>h x (by simp[hx])
  rw[List.map_cons,df,c5,kK,List.map_cons,List.map_cons,ih,List.map_append]
  simp only[enE,EnR.enc,kdS,hk,List.map_cons,List.map_nil,List.cons_append,List.nil_append]
theorem AK:∀ (o:List Nat) (i n:Nat),(∀ k ∈ o,k<n)→i+o.length≤100→∀ e ∈ df i o,EnV n e∧leK leR e
 | [],_,_,_,_,e,he=>by cases he
 | k::o,i,n,h,hi,e,he=>by
  rw[List.length_cons] at hi
  have hk:=h k (by simp)
  rw[df] at he
  rcases List.mem_cons.1 he with rfl | he
  ·exact⟨⟨⟨hk,by simp,by simp,by simp only; omega,by simp only; omega⟩,fun h=>by cases h⟩,rfl,.inl rfl⟩
  ·rcases List.mem_cons.1 he with rfl | he
   ·exact⟨⟨⟨hk,by simp,by simp,by simp only; omega,by simp only; omega⟩,fun _=>rfl⟩,rfl,.inr rfl⟩
   ·exact AK o (i+1) n (fun x hx=>h x (by simp[hx])) (by omega) e he
theorem GM (n:Nat):(bi n).map Int.toNat=List.range n:=by
 unfold bi
 rw[List.map_map]
 have:(Int.toNat ∘ fun k:Nat=>(k:Int))=_root_.id:=by funext k; simp
 rw[this,List.map_id]
theorem Hd {n:Nat} {c:CEn} (h:EnV n c):gP n ⟨c.who,kdS c.kind,c.val,c.time⟩=0:=by
 obtain⟨⟨h1,h2,h3,h4,h5⟩,hv⟩:=h
 have hk:kdL.any (Str.is (kdS c.kind))=true:=by cases c.kind<;>decide
 unfold gP
 simp only
 rw[if_neg (by simp[aF]; omega),hk,if_neg (by simp),if_neg (by simp[aF]; omega),QD,if_neg]
 rintro⟨q1,q2⟩
 exact q1 (hv q2)
theorem xu {α:Type} {f:α→Int}:∀ (l pre:List α),(∀ x ∈ l,f x=0)→aL (fun _ x=>f x) pre l=0
 | [],_,_=>rfl
 | a::l,pre,h=>by
  rw[aL,if_neg (by simpa using h a (by simp))]
  exact xu l _ fun x hx=>h x (by simp[hx])
theorem uP:∀ (l pre:List Str),(∀ s ∈ l,isName s=true)→(pre++l).Pairwise (·≠·)→aL once pre l=0
 | [],_,_,_=>rfl
 | x::l,pre,hn,hp=>by
  have hx:=hn x (by simp)
  have hpre:pre.any (Str.is x)=false:=by
   rw[List.any_eq_false]
   intro y hy
   have:=(List.pairwise_append.1 hp).2.2 y hy x (by simp)
   rw[Str.is_eq]
   simpa using this
  have h0:once pre x=0:=by rw[CR,hx,hpre]; rfl
  rw[aL,if_neg (by simpa using h0)]
  exact uP l (pre++[x]) (fun s hs=>hn s (by simp[hs])) (by simpa using hp)
theorem lg:∀ (l pre:List Stt),aL J.stE pre l=0→(∀ x ∈ l,isName x.name=true)∧l.Pairwise (fun x y=>x.name≠y.name)∧∀ x ∈ l,∀ p ∈ pre,p.name≠x.name
 | [],_,_=>⟨by simp,List.Pairwise.nil,by simp⟩
 | x::l,pre,h=>by
  rw[aL] at h
  by_cases h0:J.stE pre x=0
  ·rw[if_neg (by simpa using h0)] at h
   obtain⟨i1,i2,i3⟩:=lg l (pre++[x]) h
   have hx:isName x.name=true∧pre.any (Stt.is x.name)=false:=by
    unfold J.stE at h0
    cases hn:isName x.name
    ·rw[hn] at h0; simp[av,aq] at h0
    ·cases hp:pre.any (Stt.is x.name)
     ·exact⟨rfl,rfl⟩
     ·rw[hn,hp] at h0; simp[av,aq] at h0
   have hne:∀ p ∈ pre,p.name≠x.name:=fun p hp e=>by
    have:=List.any_eq_false.1 hx.2 p hp
    simp[Stt.is,e] at this
   refine⟨fun s hs=>?_,?_,fun s hs p hpm=>?_⟩
   ·rcases List.mem_cons.1 hs with rfl | hs
    ·exact hx.1
    ·exact i1 s hs
   ·rw[List.pairwise_cons]
    exact⟨fun s hs=>i3 s hs x (by simp),i2⟩
   ·rcases List.mem_cons.1 hs with rfl | hs
    ·exact hne p hpm
    ·exact i3 s hs p (by simp[hpm])
  ·rw[if_pos (by simpa using h0)] at h
   exact absurd h h0
theorem uI:∀ (l:List CCl) (k:Nat),(∀ c ∈ l,c.ph=.done)→cV k l=[]
 | [],_,_=>rfl
 | c::l,k,h=>by rw[cV,if_pos (h c (by simp))]; exact uI l (k+1) fun x hx=>h x (by simp[hx])
theorem R4' (hB:pT P leK) (l:List Stt) (hl:∀ x ∈ l,x.ok) (h5:l.length≤5) (hne:l≠[]) (hz:bm l=0) (A X o:List Int) (k:Nat) (hk:k<2) (ho:(if k=0 then A else X)=o) (hp:o.Perm (bi l.length)) :
  ac P (af P) ko ⟨[.c (.slice (l.map Stt.enc)),.slice 1 1 0 2 none (some 2),.c (ci 2),.c (ci k)],[.cells (1+l.length) (cellsOf (l.map Stt.enc)) 0,.cells 1 [.c (.slice (A.map ci)),.c (.slice (X.map ci))] 0]⟩
   = ac P (af P) ko ⟨[.c (.slice (l.map Stt.enc)),.slice 1 1 0 2 none (some 2),.c (ci 2),.c (ci (k+1))],[.cells (1+l.length) (cellsOf (l.map Stt.enc)) 0,.cells 1 [.c (.slice (A.map ci)),.c (.slice (X.map ci))] 0]⟩:=by
 have hol:o.length=l.length:=by rw[hp.length_eq,bH]
 have hnn:∀ y ∈ o,0≤y:=fun y hy=>(mf l.length y (hp.mem_iff.1 hy)).1
 have hpn:(o.map Int.toNat).Perm (List.range l.length):=by
  have:=hp.map Int.toNat
  rwa [GM] at this
 have hz2:aL J.stE [] l=0:=by
  unfold bm at hz
  rw[if_neg (by omega)] at hz
  exact hz
 obtain⟨n1,n2,_⟩:=lg l [] hz2
 have hN:NmOK (l.map Stt.name):=by
  refine⟨?_,by rw[List.length_map]; omega,fun s hs=>?_,?_⟩
  ·rw[List.length_map]
   cases l with
   | nil=>exact absurd rfl hne
   | cons a l=>simp
  ·obtain⟨x,hx,rfl⟩:=List.mem_map.1 hs
   exact⟨n1 x hx,(hl x hx).1⟩
  ·rw[List.pairwise_map]; exact n2
 have hNl:(l.map Stt.name).length=l.length:=by simp
 have hE:=uR o 0 hnn
 have hK:=AK (o.map Int.toNat) 0 l.length (fun x hx=>List.mem_range.1 (hpn.mem_iff.1 hx)) (by rw[List.length_map]; omega)
 obtain⟨a1,a2⟩:=Us hpn
 have hLl:(df 0 (o.map Int.toNat)).length≤256:=by
  have:((df 0 (o.map Int.toNat)).map enE).length=((c5 0 o).map EnR.enc).length:=by rw[hE]
  rw[List.length_map,List.length_map,eq] at this
  omega
 have e26:=S26 (P:=P) (L:=df 0 (o.map Int.toNat)) hB (fun e he=>(hK e he).2) hN le_rn (fun e he=>by rw[hNl]; exact (hK e he).1) hLl
 rw[hNl,a1,hE] at e26
 have hok:=zB le_rn.ok (df 0 (o.map Int.toNat)) (bo leR l.length) (oS le_rn.ok) fun e he=>(hK e he).1.1
 have e27:=S27 (P:=P) (names:=l.map Stt.name) hN le_rn (by rw[hNl]; exact hok)
 have hw:cV 0 (bZ leR (bo leR l.length) (df 0 (o.map Int.toNat))).cls=[]:=uI _ 0 a2
 rw[hw] at e27
 have e24:=S24 (P:=P) ⟨[108,101,97,100],l.map Stt.name,3,1000⟩ (c5 0 o) (by rw[hNl]; omega) (fun s hs=>(hN.name s hs).2) (by rw[eq]; omega)
 have hr0:ka ⟨[108,101,97,100],l.map Stt.name,3,1000⟩=0:=by
  have hm:ms [108,101,97,100]=64:=rfl
  unfold ka
  simp only[hm,hNl]
  rw[if_neg (by decide),if_neg (by intro q; exact hne (List.eq_nil_of_length_eq_zero q)),if_neg (by omega),uP _ [] (fun s hs=>(hN.name s hs).1) hN.once,if_pos rfl]
  rfl
 have hl0:G1 ⟨[108,101,97,100],l.map Stt.name,3,1000⟩ (c5 0 o)=0:=by
  unfold G1
  rw[if_pos hr0,if_neg (by rw[eq]; omega)]
  refine xu _ _ fun e he=>?_
  have hm:e.enc ∈ (df 0 (o.map Int.toNat)).map enE:=by rw[hE]; exact List.mem_map.2 ⟨e,he,rfl⟩
  obtain⟨c,hc,ec⟩:=List.mem_map.1 hm
  have:e=⟨c.who,kdS c.kind,c.val,c.time⟩:=by
   cases e
   simp only[enE,EnR.enc,CV.agg.injEq,List.cons.injEq,CV.str.injEq,CV.int.injEq,true_and,and_true] at ec
   obtain⟨q1,q2,q3,q4⟩:=ec
   subst q1 q2 q3 q4
   rfl
  rw[this]
  simp only[hNl]
  exact Hd (hK c hc).1
 rw[hl0] at e24
 exact R4 (P:=P) l h5 hne A X o k hk ho hol e24 e26 e27 _ rfl
theorem S4 (hB:pT P leK) (h10:fn P 10 []=some (.bool true)) (h20:∀ n:Nat,n≤5→fn P 20 [ci n]=some (.slice ((bL n).map fun o=>.slice (o.map ci)))) (l:List Stt) (hl:∀ x ∈ l,x.ok) (hb:l.length*40≤2^47):fn P 4 [.slice (l.map Stt.enc)]=some (.bool true):=by
 have hL:=Z4 (P:=P) l hb l [] rfl
 have hs:(l.length:Int)<9223372036854775807:=by omega
 have e15:=S15 (P:=P) l 5 hs
 have e16:=S16 (P:=P) l hs
 have hc0:cellsOf (([]:List Stt).map Stt.enc)=[]:=rfl
 have hf:=lz (b:=0) (g:=1+l.length) (fz:=0) (e:=some 3) (ys:=l.map Stt.enc) (h:=[.cells (1+l.length) (cellsOf (l.map Stt.enc)) 0]) (len:=l.length) rfl (Stt.elems _) (by simp) none
 rw[u4]
 simp[hc0] at hL
 generalize hE:l.map Stt.enc=E at *
 have hEl:E.length=l.length:=by rw[← hE,List.length_map]
 by_cases g0:l.length=0
 ·rw[g0] at hL hf
  simp at hL
  simp[c4,hL,hf,-cL,-bump,e15,e16,g0,hEl,h10]
 ·have g0' : ¬ (l.length:Int)=0:=by omega
  by_cases g1:5<l.length
  ·have g1' : (5:Int)<l.length:=by omega
   simp[c4,hL,hf,-cL,-bump,e15,e16,g0,g0',g1,g1',hEl,h10]
  ·have g1' : ¬ (5:Int)<l.length:=by omega
   cases g2:pg l 5
   ·rw[g2] at e15
    simp[c4,hL,hf,-cL,-bump,e15,e16,g0,g0',g1,g1',hEl,h10]
   ·rw[g2] at e15
    by_cases g3:bm l=0
    ·rw[g3] at e16
     have hl5:l.length≤5:=by omega
     obtain⟨M,b,hG,e17⟩:=(ab1 (P:=P) l hl hs (fun _=>by omega)).1 g3
     have hperm:=kT hG
     have hadj:=uY hG
     have e18:=S18 (P:=P) l hl hs
     rw[g3] at e18
     have hcl:(bG l M b).length=l.length:=by rw[hperm.length_eq,bH]
     have e19a:=S19 (P:=P) l.length (bG l M b) (by omega) (by omega)
     rw[iM hperm] at e19a
     have e20:=h20 l.length hl5
     rw[hE] at e17 e18
     simp at e18
     generalize hA:(bG l M b).map ci=A at *
     have hOl:(bL l.length).length<1000:=mi hl5
     have e41:=abF (P:=P) l hl hl5 g3 (.slice A) (ci (kS l)) (ci 0) [] (bL l.length) hOl (fun o ho=>kD _ _ ho) (bL l.length) [] l.length rfl
     rw[Ma hG,hE] at e41
     have hAl:(bG l M b).length=l.length:=hcl
     have e21:=S21 (P:=P) l (bG l M b) hl hs (by omega) (by omega)
     have hN:fN l (bG l M b)=0:=by unfold fN; rw[g3,iM hperm]; rfl
     rw[hN,hadj,hE,hA] at e21
     have e22:=S22 (P:=P) (bG l M b) (by omega)
     rw[IE hl5 hperm,hA] at e22
     have hsp:=(Cc (bG l M b)).trans hperm
     have e19b:=S19 (P:=P) l.length (fF (bG l M b)) (by omega) (by rw[hsp.length_eq,bH]; omega)
     rw[iM hsp] at e19b
     simp at e21 e22 e41
     generalize hX:(fF (bG l M b)).map ci=X at *
     have hOc:(bL l.length).map (fun o=>CV.slice (o.map ci))=lX (bL l.length):=rfl
     rw[hOc] at e20
     have hOcl:(lX (bL l.length)).length=(bL l.length).length:=by simp[lX]
     have w0:IntKind.i64.wrap 0=0:=rfl
     simp[c4,hL,hf,-cL,-bump,e15,e16,g0,g0',g1,g1',hEl,h10,e17,e18,e19a,e19b,e20,e41,e21,e22,hOcl,w0]
     have hw1:IntKind.i64.wrap 1=1:=rfl
     have hne:l≠[]:=by rintro rfl; exact g0 rfl
     have rA:=R4' (P:=P) hB l hl hl5 hne g3 (bG l M b) (fF (bG l M b)) (bG l M b) 0 (by decide) rfl hperm
     have rX:=R4' (P:=P) hB l hl hl5 hne g3 (bG l M b) (fF (bG l M b)) (fF (bG l M b)) 1 (by decide) rfl hsp
     have r2:∀ Hh,ac P (af P) ko ⟨[.c (.slice E),.slice 1 1 0 2 none (some 2),.c (ci 2),.c (ci 2)],Hh⟩=some (.exit 4,⟨[],Hh⟩):=fun Hh=>by
      rw[O3]
      simp[nD]
     rw[hE,hA,hX] at rA rX
     have rq:=(rA.trans rX).trans (r2 _)
     simp at rq
     simp[rq,h10]
    ·simp[c4,hL,hf,-cL,-bump,e15,e16,g0,g0',g1,g1',g3,hEl,h10]
end LM.GZ
namespace LM.GZ
open Go LM
theorem beh_le:pT prog leK:=S1 fun r names e h=>Vx h.1 h.2
end LM.GZ
namespace LM.GZ
open Go LM
variable {P:Nat→Option SFunc} [Has P]
def rvO (R:List (Nat × Nat × List Int)):List LV:=R.map fun x=>.slice x.1 x.2.1 0 x.2.2.length none none
structure OrH (R:List (Nat × Nat × List Int)) (H:Heap):Prop where
 row:H[1]? = some (.cells (1+R.length) (rvO R) 0)
 at' : ∀ x ∈ R,2≤x.1∧H[x.1]? = some (.cells x.2.1 (cI x.2.2) 0)
theorem Bq (pos:Option Nat) {h:Heap} {b g:Nat} {xs ys:List Int} (hb:h[b]? = some (.cells g (cI xs) 0)) (hl:xs.length+ys.length<1000) :
  aN pos none 8 (.slice b g 0 xs.length none none) (.c (.slice (ys.map ci))) h=some (.slice b (if ys=[] then g else g+1) 0 (xs.length+ys.length) none none,h.set b (.cells (if ys=[] then g else g+1) (cI (xs++ys)) 0)):=by
 by_cases hy:ys=[]
 ·subst hy
  have hs:h.set b (.cells g (cI xs) 0)=h:=by
   refine List.ext_getElem? fun i=>?_
   by_cases e:b=i
   ·subst e; rw[List.getElem?_set_self (ltG hb),hb]
   ·rw[List.getElem?_set_ne e]
  simp[aN,aO,aT,ok,hb,bJ,hs,ae]
  omega
 ·have:=iP pos (b:=b) (g:=g) (bytes:=8) (e:=none) (ys:=xs.map ci) (xs:=ys.map ci) (h:=h) (len:=xs.length) (fz:=0) (by rw[bk]; exact hb) (dD _) (dD _) (by simp) (Nat.zero_le _) (by simpa using hy) (by simp; omega) (by simp; omega)
  rw[if_neg hy,this]
  simp only[List.length_map,← List.map_append,bk]
theorem rG (R:List (Nat × Nat × List Int)):(rvO R).length=R.length:=by simp[rvO]
theorem QH {h:Heap} {R:List (Nat × Nat × List Int)} {x:Nat × Nat × List Int} {q pos:Nat} (hb:h[1]? = some (.cells (1+R.length) (rvO R) 0)) (hq:h[q]? = some (.cells 1 [.slice x.1 x.2.1 0 x.2.2.length none none] 0)) (hl:R.length<1000) :
  aN (some pos) none 24 (.slice 1 (1+R.length) 0 R.length none none) (.slice q 1 0 1 none none) h=some (.slice 1 (1+R.length+1) 0 (R.length+1) none none,h.set 1 (.cells (1+R.length+1) (rvO (R++[x])) 0)):=by
 have e:rvO (R++[x])=rvO R++[.slice x.1 x.2.1 0 x.2.2.length none none]:=by simp[rvO]
 rw[e]
 simp[aN,aO,hq,hb,aT,ok,ae,rG]
 omega
def chO (B g:Nat) (o:List Int):Heap:=[.cells g (cI o) 0,.dead,.dead,.dead,.cells 1 [.slice B g 0 o.length none none] 0,.dead]
def eB (n:Nat) (l:List Int) (a:Nat):List Int:=l.take a++((n:Int)::l.drop a)
theorem MP {n a:Nat} {l:List Int}:(eB n l a).length=l.length+1:=by
 unfold eB
 have:=List.take_append_drop a l
 have h2:(l.take a).length+(l.drop a).length=l.length:=by rw[← List.length_append,this]
 simp only[List.length_append,List.length_cons]
 omega
theorem R20 {R:List (Nat × Nat × List Int)} {H:Heap} (hR:OrH R H) (hRl:R.length<900) (n:Nat) (hn:n<100) (l:List Int) (hl:l.length=n) (a:Nat) (ha:a≤n) (os:CV) (len k:Int) :
  ∃ g,ac P (af P) mN ⟨[.c (ci ((n:Int)+1)),.slice 1 (1+R.length) 0 R.length none none,.c (.slice (l.map ci)),.c (ci a),.c os,.c (ci len),.c (ci k)],H⟩
   = ac P (af P) mN ⟨[.c (ci ((n:Int)+1)),.slice 1 (1+R.length+1) 0 (R.length+1) none none,.c (.slice (l.map ci)),.c (ci ((a:Int)+1)),.c os,.c (ci len),.c (ci k)],H.set 1 (.cells (1+R.length+1) (rvO (R++[(H.length,g,eB n l a)])) 0)++chO H.length g (eB n l a)⟩
   ∧ OrH (R++[(H.length,g,eB n l a)]) (H.set 1 (.cells (1+R.length+1) (rvO (R++[(H.length,g,eB n l a)])) 0)++chO H.length g (eB n l a)):=by
 have q1:=ltG hR.row
 have hal:a≤l.length:=by omega
 have htl:(l.take a).length=a:=by rw[List.length_take]; omega
 have hst:∀ (X Y:LB) (T:Heap),(H++X::T).set H.length Y=H++Y::T:=fun X Y T=>by rw[List.set_append_right _ _ (Nat.le_refl _),Nat.sub_self]; rfl
 have hgt:∀ (X:LB) (T:Heap),(H++X::T)[H.length]? = some X:=fun X T=>by rw[List.getElem?_append_right (Nat.le_refl _),Nat.sub_self]; rfl
 obtain⟨g1,hg1⟩ : ∃ g1,g1=(if l.take a=[] then 1 else 1+1):=⟨_,rfl⟩
 obtain⟨g3,hg3⟩ : ∃ g3,g3=(if l.drop a=[] then g1+1 else g1+1+1):=⟨_,rfl⟩
 have f1:=fun pos T=>Bq (some pos) (h:=H++.cells 1 [] 0::T) (b:=H.length) (g:=1) (xs:=[]) (ys:=l.take a) (hgt _ _) (by simp; omega)
 have f2:=fun pos T=>Bq (some pos) (h:=H++.cells g1 (cI (l.take a)) 0::T) (b:=H.length) (g:=g1) (xs:=l.take a) (ys:=[(n:Int)]) (hgt _ _) (by simp; omega)
 have f3:=fun pos T=>Bq (some pos) (h:=H++.cells (g1+1) (cI (l.take a++[(n:Int)])) 0::T) (b:=H.length) (g:=g1+1) (xs:=l.take a++[(n:Int)]) (ys:=l.drop a) (hgt _ _) (by simp; omega)
 have hio:l.take a++[(n:Int)]++l.drop a=eB n l a:=by simp[eB]
 have hil:=MP (n:=n) (a:=a) (l:=l)
 rw[← hg1] at f1
 rw[← hg3] at f3
 rw[hio] at f3
 have f4:=fun pos=>QH (h:=H++chO H.length g3 (eB n l a)) (R:=R) (x:=(H.length,g3,eB n l a)) (q:=H.length+4) (pos:=pos) (by rw[List.getElem?_append_left q1]; exact hR.row) (by rw[List.getElem?_append_right (by omega),Nat.add_sub_cancel_left]; rfl) (by omega)
 refine⟨g3,?_,?_⟩
 ·have hz:fP 1 (l.map ci)=true:=by cases l<;>rfl
  have w1:IntKind.i64.wrap ((n:Int)+1-1)=n:=by rw[show (n:Int)+1-1=n by omega]; exact am (by omega) (by omega)
  have w2:IntKind.i64.wrap ((a:Int)+1)=a+1:=am (by omega) (by omega)
  have hlt:(a:Int)<n+1:=by omega
  have hle:(a:Int)≤l.length:=by omega
  have hlen:(l.take a).length+[(n:Int)].length=a+1:=by simp[htl]
  have hlen3:(l.take a++[(n:Int)]).length+(l.drop a).length=(eB n l a).length:=by rw[← hio]; simp only[List.length_append]
  have hl2:(l.take a++[(n:Int)]).length=a+1:=by simp[htl]
  simp only[List.length_nil,Nat.zero_add,List.nil_append,htl] at f1
  rw[hlen,if_neg (by simp)] at f2
  rw[hlen3,hl2] at f3
  simp only[hst,List.map_cons,List.map_nil] at f1 f2 f3
  simp only[chO] at f4
  conv=>lhs; rw[Kr]
  simp only[List.map_take,List.map_drop,htl] at f1 f2 f3
  have hk0:∀ T:Heap,(H++T)[H.length]? = T[0]?:=fun T=>by rw[List.getElem?_append_right (Nat.le_refl _),Nat.sub_self]
  have hk:∀ (T:Heap) (k:Nat),(H++T)[H.length+k]? = T[k]?:=fun T k=>by rw[List.getElem?_append_right (by omega),Nat.add_sub_cancel_left]
  have hs4:∀ (T:Heap) (k:Nat) (X:LB),(H++T).set (H.length+k) X=H++T.set k X:=fun T k X=>by rw[List.set_append_right _ _ (by omega),Nat.add_sub_cancel_left]
  have hs1:∀ (T:Heap) (X:LB),(H++T).set 1 X=H.set 1 X++T:=fun T X=>List.set_append_left _ _ q1
  have w3:IntKind.i64.wrap (n:Int)=n:=am (by omega) (by omega)
  have htk:((l.map ci).drop a).take (n-a)=(l.map ci).drop a:=List.take_of_length_le (by simp; omega)
  have hgc:bM H.length (H.set 1 (.cells (1+R.length+1) (rvO (R++[(H.length,g3,eB n l a)])) 0))=false:=by
   cases hu:bM H.length (H.set 1 (.cells (1+R.length+1) (rvO (R++[(H.length,g3,eB n l a)])) 0))
   ·rfl
   ·have u1:=cf (i:=1) hu (List.getElem?_set_self q1)
    simp only[LB.under] at u1
    have u2:=underL_mem u1 (v:=.slice H.length g3 0 (eB n l a).length none none) (by simp[rvO])
    simp[LV.under] at u2
  simp only[chO]
  simp[kY,hlt,hle,ha,hz,w1,w2,w3,hl,f1,f2,f3,f4,hk0,hk,hs4,hs1,cQ,htk,hgc,q1]
 ·refine⟨?_,fun x hx=>?_⟩
  ·rw[List.getElem?_append_left (by simpa using q1),List.getElem?_set_self q1,List.length_append]
   rfl
  ·rcases List.mem_append.1 hx with hx | hx
   ·obtain⟨a1,a2⟩:=hR.at' x hx
    refine⟨a1,?_⟩
    rw[List.getElem?_append_left (by simpa using ltG a2),List.getElem?_set_ne (by omega)]
    exact a2
   ·simp at hx
    subst hx
    refine⟨by show 2≤H.length; omega,?_⟩
    show (_++chO _ _ _)[H.length]? = _
    rw[List.getElem?_append_right (by simp),List.length_set,Nat.sub_self]
    rfl
theorem Zf (n:Nat) (hn:n<100) (l:List Int) (hl:l.length=n) (os:CV) (len k:Int):∀ (i a:Nat) (R:List (Nat × Nat × List Int)) (H:Heap),a+i=n+1→OrH R H→R.length+i<900 →
  ∃ R' H',ac P (af P) mN ⟨[.c (ci ((n:Int)+1)),.slice 1 (1+R.length) 0 R.length none none,.c (.slice (l.map ci)),.c (ci a),.c os,.c (ci len),.c (ci k)],H⟩
   = some (.exit 2,⟨[.c (ci ((n:Int)+1)),.slice 1 (1+R'.length) 0 R'.length none none,.c os,.c (ci len),.c (ci k)],H'⟩)∧OrH R' H'∧R'.map (·.2.2)=R.map (·.2.2)++(List.range' a i).map (eB n l)∧R'.length=R.length+i∧(∃ S,R'=R++S∧(0<i→∃ x ∈ S,H.length≤x.1))∧H.length≤H'.length:=by
 intro i
 induction i with
 | zero =>
  intro a R H ha hR _
  have:a=n+1:=by omega
  subst this
  refine⟨R,H,?_,hR,by simp,rfl,⟨[],by simp,fun h=>absurd h (by omega)⟩,Nat.le_refl _⟩
  rw[Kr]
  simp[kY]
 | succ i ih =>
  intro a R H ha hR hl2
  obtain⟨g,e1,hR1⟩:=R20 (P:=P) hR (by omega) n hn l hl a (by omega) os len k
  obtain⟨R',H',e2,hR2,h3,h4,⟨S,h5,_⟩,h6⟩:=ih (a+1) _ _ (by omega) hR1 (by simp; omega)
  simp only[List.length_append,List.length_cons,List.length_nil,List.length_set] at e2 h4 h6
  refine⟨R',H',?_,hR2,?_,by omega,⟨(H.length,g,eB n l a)::S,by rw[h5]; simp,fun _=>⟨_,List.mem_cons_self ..,Nat.le_refl _⟩⟩,by omega⟩
  ·rw[e1,← Nat.add_assoc] at *
   exact e2
  ·rw[h3]
   simp[List.range'_succ]
theorem YJ {R:List (Nat × Nat × List Int)} {H:Heap} (hR:OrH R H) {m:Nat} (h1:1<m) {x:Nat × Nat × List Int} (hx:x ∈ R) (hm:m≤x.1) (ts:List LV):gc m ⟨ts,H⟩=⟨ts,H⟩:=by
 rw[qr]
 have hu:bM m (H.take m)=false:=by
  cases hu:bM m (H.take m)
  ·rfl
  ·have u1:=cf (i:=1) hu (by rw[List.getElem?_take_of_lt h1]; exact hR.row)
   simp only[LB.under] at u1
   have u2:=underL_mem u1 (v:=.slice x.1 x.2.1 0 x.2.2.length none none) (by unfold rvO; exact List.mem_map.2 ⟨x,hx,rfl⟩)
   simp[LV.under] at u2
   omega
 unfold gcH
 simp[hu]
theorem Yw (n:Nat) (hn:n<100) (A:List (List Int)) (hA:∀ l ∈ A,l.length=n) (hAl:A.length<1000):∀ (r pre:List (List Int)) (R:List (Nat × Nat × List Int)) (H:Heap),A=pre++r→OrH R H→R.length+r.length*(n+1)<900 →
  ∃ R' H',ac P (af P) q9 ⟨[.c (ci ((n:Int)+1)),.slice 1 (1+R.length) 0 R.length none none,.c (.slice (A.map fun o=>.slice (o.map ci))),.c (ci A.length),.c (ci pre.length)],H⟩
   = some (.exit 0,⟨[.slice 1 (1+R'.length) 0 R'.length none none],H'⟩)∧OrH R' H'∧R'.map (·.2.2)=R.map (·.2.2)++r.flatMap fun l=>(List.range (n+1)).map (eB n l):=by
 intro r
 induction r with
 | nil =>
  intro pre R H h hR _
  have h:A=pre:=by simpa using h
  subst h
  refine⟨R,H,?_,hR,by simp⟩
  rw[JL]
  simp[ly]
 | cons l r ih =>
  intro pre R H h hR hl2
  rw[List.length_cons,Nat.succ_mul] at hl2
  have hl:=hA l (by rw[h]; simp)
  obtain⟨R1,H1,e1,hR1,h3,h4,⟨S,h5,h5'⟩,h6⟩:=Zf (P:=P) n hn l hl (.slice (A.map fun o=>.slice (o.map ci))) A.length pre.length (n+1) 0 R H (by omega) hR (by omega)
  obtain⟨x,hx,hxl⟩:=h5' (by omega)
  obtain⟨R',H',e2,hR2,h7⟩:=ih (pre++[l]) R1 H1 (by simp[h]) hR1 (by rw[h4]; omega)
  have gx:A[pre.length]? = some l:=by rw[h]; simp
  obtain⟨hpl,gx'⟩:=List.getElem?_eq_some_iff.1 gx
  have hw:IntKind.i64.wrap ((pre.length:Int)+1)=(pre.length:Int)+1:=am (by omega) (by omega)
  have hlt:(pre.length:Int)<A.length:=by omega
  refine⟨R',H',?_,hR2,?_⟩
  ·have q1:=ltG hR.row
   have hgc:=YJ hR1 q1 (x:=x) (by rw[h5]; simp[hx]) hxl
   have gy:(A.map fun o=>CV.slice (o.map ci))[pre.length]? = some (.slice (l.map ci)):=by simp[gx]
   obtain⟨hpl2,gy'⟩:=List.getElem?_eq_some_iff.1 gy
   have hAm:(A.map fun o=>CV.slice (o.map ci)).length=A.length:=by simp
   generalize (A.map fun o=>CV.slice (o.map ci))=OC at *
   simp only[List.length_append,List.length_singleton] at e2
   simp at e1 e2
   conv=>lhs; rw[JL]
   simp[-gc,ly,hlt,hpl,hpl2,hAm,gy,gy',e1,hw,hgc,e2]
  ·rw[h7,h3,List.flatMap_cons,List.append_assoc,← List.range_eq_range']
theorem EJ (d:Nat):∀ (R:List (Nat × Nat × List Int)) (h:Heap),(∀ x ∈ R,∃ fz,h[x.1]? = some (.cells x.2.1 (cI x.2.2) fz))→∃ h',aV (frz (d+2)) (rvO R) h=some (R.map fun x=>.slice (x.2.2.map ci),h')
 | [],h,_=>⟨h,rfl⟩
 | x::R,h,H=>by
  obtain⟨fz,hx⟩:=H x (by simp)
  have e1:=lT (d:=d) (b:=x.1) (g:=x.2.1) (fz:=fz) (e:=none) (ys:=x.2.2.map ci) (h:=h) (len:=x.2.2.length) (by rw[bk]; exact hx) (dD _) (by simp) none
  obtain⟨h',e2⟩:=EJ d R (LM.bump x.1 (x.2.2.length*ae none) h) fun y hy=>by
   obtain⟨fz2,hy⟩:=H y (by simp[hy])
   exact fX hy
  refine⟨h',?_⟩
  have e:rvO (x::R)=.slice x.1 x.2.1 0 x.2.2.length none none::rvO R:=rfl
  rw[e,bh,e1,ak,e2,ak]
  rfl
theorem pW:∀ (l:List CV),bV none l.length l=some l
 | []=>rfl
 | a::l=>by
  rw[List.length_cons]
  simp[bV,bO,ae,pW l]
theorem LZ {R:List (Nat × Nat × List Int)} {H:Heap} (hR:OrH R H):dR (some (.slice 1 (1+R.length) 0 R.length none none)) H=some (.slice (R.map fun x=>.slice (x.2.2.map ci))):=by
 obtain⟨h',e⟩:=EJ 37 R (LM.bump 1 (R.length*ae none) H) fun x hx=>by
  obtain⟨a,b⟩:=hR.at' x hx
  exact fX b
 have hz:R.length*ae none=R.length:=by show R.length*1=_; omega
 rw[hz] at e
 have hc:=pW (R.map fun x=>CV.slice (x.2.2.map ci))
 rw[List.length_map] at hc
 unfold dR
 rw[ak]
 have e40:frz ay (.slice 1 (1+R.length) 0 R.length none none) H=some (.slice (R.map fun x=>.slice (x.2.2.map ci)),h'):=by
  show frz (39+1) _ _=_
  rw[eg,hR.row]
  simp only[hz,Nat.zero_add,List.drop_zero]
  rw[if_pos ⟨trivial,by rw[rG]; omega⟩]
  have:(rvO R).take R.length=rvO R:=List.take_of_length_le (by rw[rG]; omega)
  rw[this]
  have e:aV (frz 39) (rvO R) (LM.bump 1 R.length H)=_:=e
  rw[e,ak,hc,ak]
 rw[e40,ak]
theorem JH (n:Nat):bL (n+1)=(bL n).flatMap fun l=>(List.range (n+1)).map (eB n l):=rfl
theorem S20:∀ n:Nat,n≤5→fn P 20 [ci n]=some (.slice ((bL n).map fun o=>.slice (o.map ci)))
 | 0,_=>by
  rw[u20]
  simp[c20,bL]
  rfl
 | n+1,h=>by
  have ih:=S20 n (by omega)
  have hcnt:=mi (n:=n) (by omega)
  have hcnt1:=mi h
  rw[dt] at hcnt1
  have hs:(bL n).length*(n+1)<900:=by
   have h0:(bL 0).length=1:=rfl
   have h1:=dt 0
   have h2:=dt 1
   have h3:=dt 2
   have h4:=dt 3
   simp only[Nat.zero_add,Nat.reduceAdd] at h1 h2 h3 h4
   have:n=0∨n=1∨n=2∨n=3∨n=4:=by omega
   rcases this with rfl | rfl | rfl | rfl | rfl<;>omega
  obtain⟨R',H',e1,hR,h3⟩:=Yw (P:=P) n (by omega) (bL n) (fun l hl=>MA hl) hcnt (bL n) [] [] [.cells 1 [] 0,.cells 1 [] 0] rfl ⟨rfl,by simp⟩ (by simpa using hs)
  have hf:=LZ hR
  have hm:R'.map (fun x=>CV.slice (x.2.2.map ci))=(bL (n+1)).map fun o=>.slice (o.map ci):=by
   rw[JH]
   simp only[List.map_nil,List.nil_append] at h3
   rw[← h3,List.map_map]
   rfl
  rw[hm] at hf
  have hw:IntKind.i64.wrap ((n:Int)+1-1)=n:=by rw[show (n:Int)+1-1=n by omega]; exact am (by omega) (by omega)
  have hw2:IntKind.i64.wrap (n:Int)=n:=am (by omega) (by omega)
  have hne:¬ (n:Int)+1=0:=by omega
  have hl:((bL n).map fun o=>CV.slice (o.map ci)).length=(bL n).length:=by simp
  rw[u20]
  generalize ((bL n).map fun o=>CV.slice (o.map ci))=OC at *
  generalize ((bL (n+1)).map fun o=>CV.slice (o.map ci))=OD at *
  simp at e1
  simp[c20,hne,hw,hw2,ih,hl,e1,hf]
end LM.GZ
