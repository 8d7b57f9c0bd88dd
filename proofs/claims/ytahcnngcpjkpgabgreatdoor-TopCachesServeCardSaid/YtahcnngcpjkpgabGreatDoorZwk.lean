/- The cache of at most one entry: what its functions compute (models). -/
import Derived.Test.YtahcnngcpjkpgabGreatDoorZwm
namespace Go.Proofs.YtahcnngcpjkpgabGreatDoor
set_option linter.unusedVariables false
noncomputable def m_mf (n at_:Int):Option Int:=
 (z5s at_).bind fun (r:Bool)=>if !r then some 1 else if decide (at_ < n) then some 7 else some 0
abbrev mkK (r':zw) (a':yb) (at_:Int) (tags:List Bs) (nm:zw):wx:=wx.mk (uj.mk r' a' at_ tags at_) nm
noncomputable def y8j (s:Int) (r:zw) (a:yb) (at_:Int) (tags:List Bs) (nm:zw):Option ((Bool×Int)×Option wx):=
 (z54 r).bind fun (r':zw)=>(z2w a).bind fun (a':yb)=>(z50 r.Method).bind fun (u:Bool)=>if u=false then (z2v (mkK r' a' at_ tags nm).Entry).bind fun (z:Int)=>if 0≤z∧z≤s then some ((true,0),some (mkK r' a' at_ tags nm)) else none else none
noncomputable def y8k (r:zw) (a:yb):Option ((Bool×Int)×Option wx):=
 (z50 r.Method).bind fun (u:Bool)=>if u then (Qu a.Status 200 399).bind fun (o:Bool)=>some ((false,0),none) else some ((false,0),none)
noncomputable def z9o (n s:Int) (r:zw) (a:yb) (at_:Int):Option ((Bool×Int)×Option wx):=
 (jk r).bind fun (e1:Int)=>if decide (e1≠0) then some ((false,e1),none) else (kl a).bind fun (e2:Int)=>if decide (e2≠0) then some ((false,e2),none) else (m_mf n at_).bind fun (e3:Int)=>if decide (e3≠0) then some ((false,e3),none) else (z5y r a).bind fun (st:Bool×Int)=>if decide (st.2≠0) then some ((false,st.2),none) else (z9k a).bind fun (t:(List Bs)×Int)=>if decide (t.2≠0) then some ((false,t.2),none) else (Yl r).bind fun (nm:zw×Int)=>if decide (nm.2≠0) then some ((false,nm.2),none) else if st.1 then y8j s r a at_ t.1 nm.1 else y8k r a
abbrev noR:yb:=yb.mk 0 [] []
abbrev y5h (K:wx) (at_:Int):wx:=wx.mk (uj.mk K.Entry.Request K.Entry.Response K.Entry.At K.Entry.Tags at_) K.own_
noncomputable def y8m (K:wx) (q:zw) (c:yh):Option (Int×yb×Int):=
 (km K.Entry.Response.Headers).bind fun (t:yh×Int)=>(z55 K.Entry q.At).bind fun (g:Int)=>(z52 c t.1 g).bind fun (d:Int)=>if (decide (d=1) || decide (d=2)) then (z9m (y5h K q.At) q q.At).bind fun (an:yb×wx)=>some (d,an.1,0) else if c.Only then some (4,noR,0) else some (d,noR,0)
noncomputable def y8l (c:yh):Option (Int×yb×Int):=
 if c.Only then some (4,noR,0) else some (0,noR,0)
noncomputable def z9p (n:Int) (K:wx) (q:zw):Option (Int×yb×Int):=
 (jk q).bind fun (e1:Int)=>if decide (e1≠0) then some (0,noR,e1) else (km q.Headers).bind fun (c:yh×Int)=>if decide (c.2≠0) then some (0,noR,c.2) else if decide (q.At < n) then some (0,noR,7) else (Yl q).bind fun (nm:zw×Int)=>if decide (nm.2≠0) then some (0,noR,nm.2) else (z0u K.own_ K.Entry.Response nm.1).bind fun (su:Bool)=>if su then y8m K q c.1 else y8l c.1
abbrev ageB:Bs:=[97,103,101]
abbrev z6p:Bs:=[72,69,65,68]
noncomputable def Zf:Option Bool:=z9a.bind fun (h:Bool)=>some h
noncomputable def y8i (a b:yb) (q:zw):Option Bool:=
 (z5q a.Headers ageB).bind fun (pl:(List zg)×Int)=>(z5q b.Headers ageB).bind fun (wn:(List zg)×Int)=>(y22 pl.1 wn.1).bind fun (eq:Bool)=>if (pl.2=0∧wn.2=0)∧eq=true∧a.Status=b.Status∧(q.Method=z6p∨a.Body=b.Body) then Zf else none
noncomputable def y8h (b:yb) (q:zw) (st:zu) (K:wx):Option Bool:=
 (z2i q).bind fun (wt:Bs×Int)=>(z85 wt.1).bind fun (rr:zw×Int×Int)=>(z2s st [0,1000,30000]).bind fun (pk:Int×zu)=>(z9p 0 K (zw.mk pk.1 rr.1.Method rr.1.Host rr.1.Path rr.1.Query rr.1.From rr.1.Headers rr.1.Body)).bind fun (g:Int×yb×Int)=>if wt.2=0∧rr.2.2=0 then (if decide (g.2.2≠0) then (if g.2.2=9 then Zf else none) else if (decide (g.1≠1) && decide (g.1≠2)) then Zf else y8i g.2.1 b q) else none
noncomputable def y8g (b:yb) (q:zw) (st:zu) (p:(Bool×Int)×Option wx):Option Bool:=
 match p.2 with
 | none=>if p.1.1=false then Zf else none
 | some K=>if p.1.1=true∧p.1.2=0 then y8h b q st K else none
noncomputable def y26 (L:List Int):Option Bool:=
 (z9h (zu.mk L 0)).bind fun (ra:yb×zu)=>(z0o ra.1).bind fun (wa:Bs×Int)=>(z2j wa.1).bind fun (rb:yb×Int×Int)=>(z9i ra.2 0).bind fun (rq:zw×zu)=>if (decide (wa.2≠0) || decide (rb.2.2≠0)) then (if wa.2≠0∧rb.2.2≠0 then Zf else none) else (z9o 0 100000 rq.1 rb.1 0).bind fun (p:(Bool×Int)×Option wx)=>y8g rb.1 rq.1 rq.2 p
end Go.Proofs.YtahcnngcpjkpgabGreatDoor
