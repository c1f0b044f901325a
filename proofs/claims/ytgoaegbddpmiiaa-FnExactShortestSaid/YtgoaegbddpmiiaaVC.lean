import Derived.Test.YtgoaegbddpmiiaaVmd
import Derived.Test.YtgoaegbddpmiiaaProg
namespace Go.Proofs.Ytgoaegbddpmiiaa
open Go.VK
def tab:List (Nat×TI):=[
 (1,{ agg:=false,cts:=[.oth],bytes:=8 }),
 (2,{ agg:=false,cts:=[.int .i64],bytes:=8 }),
 (3,{ agg:=false,cts:=[.int .i64],bytes:=8 }),
 (4,{ agg:=false,cts:=[.bool],bytes:=1 }),
 (5,{ agg:=false,cts:=[.int .u8],bytes:=1 }),
 (6,{ agg:=false,cts:=[.int .u8],bytes:=1 }),
 (7,{ agg:=true,cts:=[.int .i64,.int .i64,.bool,.int .u8],offs:=[(0,2),(1,3),(2,4),(3,6)],bytes:=24 }),
 (8,{ agg:=true,cts:=[.int .i64,.int .i64,.bool,.int .u8],offs:=[(0,2),(1,3),(2,4),(3,6)],bytes:=24 }),
 (9,{ agg:=false,cts:=[.str],bytes:=16 }),
 (10,{ agg:=false,cts:=[.str],bytes:=16 }),
 (11,{ agg:=false,cts:=[.str],bytes:=16 }),
 (12,{ agg:=false,cts:=[.int .u64],bytes:=8 }),
 (13,{ agg:=true,cts:=[.str,.int .u64],offs:=[(0,9),(1,12)],bytes:=24 }),
 (14,{ agg:=true,cts:=[.str,.int .u64],offs:=[(0,9),(1,12)],bytes:=24 }),
 (15,{ agg:=false,cts:=[.ptr],bytes:=8 }),
 (16,{ agg:=false,cts:=[.ptr],bytes:=8 }),
 (17,{ agg:=false,cts:=[.ptr],bytes:=8 }),
 (18,{ agg:=true,cts:=[.ptr],offs:=[(0,17)],bytes:=8 }),
 (19,{ agg:=true,cts:=[.ptr],offs:=[(0,17)],bytes:=8 }),
 (21,{ agg:=false,cts:=[.int .i32],bytes:=4 }),
 (22,{ agg:=false,cts:=[.slice 3],elem:=some 91,bytes:=24 }),
 (23,{ agg:=false,cts:=[.slice 1],elem:=some 9,bytes:=24 }),
 (24,{ agg:=false,cts:=[.slice 5],elem:=some 93,bytes:=24 }),
 (25,{ agg:=true,cts:=[.slice 3,.slice 1,.int .i64,.slice 5],offs:=[(0,22),(1,23),(2,3),(3,24)],bytes:=80 }),
 (26,{ agg:=true,cts:=[.slice 3,.slice 1,.int .i64,.slice 5],offs:=[(0,22),(1,23),(2,3),(3,24)],bytes:=80 }),
 (27,{ agg:=false,cts:=[.oth],bytes:=8 }),
 (28,{ agg:=false,cts:=[.slice 1],elem:=some 3,bytes:=24 }),
 (30,{ agg:=false,cts:=[.oth],bytes:=8 }),
 (31,{ agg:=false,cts:=[.slice 3],elem:=some 95,bytes:=24 }),
 (32,{ agg:=false,cts:=[.slice 5],elem:=some 57,bytes:=24 }),
 (33,{ agg:=true,cts:=[.slice 3,.slice 1,.int .i64,.slice 5],offs:=[(0,31),(1,23),(2,3),(3,32)],bytes:=80 }),
 (34,{ agg:=true,cts:=[.slice 3,.slice 1,.int .i64,.slice 5],offs:=[(0,31),(1,23),(2,3),(3,32)],bytes:=80 }),
 (35,{ agg:=false,cts:=[.oth],bytes:=8 }),
 (36,{ agg:=false,cts:=[.oth],bytes:=8 }),
 (37,{ agg:=false,cts:=[.oth],bytes:=8 }),
 (38,{ agg:=false,cts:=[.oth],bytes:=8 }),
 (39,{ agg:=false,cts:=[.oth],bytes:=8 }),
 (40,{ agg:=false,cts:=[.oth],bytes:=8 }),
 (41,{ agg:=false,cts:=[.slice 1],elem:=some 4,bytes:=24 }),
 (42,{ agg:=false,cts:=[.slice 1],elem:=some 28,bytes:=24 }),
 (43,{ agg:=true,cts:=[.slice 1,.slice 1,.slice 1,.slice 1,.slice 1,.slice 1,.slice 1],offs:=[(0,41),(1,41),(2,41),(3,41),(4,28),(5,42),(6,42)],bytes:=168 }),
 (44,{ agg:=true,cts:=[.slice 1,.slice 1,.slice 1,.slice 1,.slice 1,.slice 1,.slice 1],offs:=[(0,41),(1,41),(2,41),(3,41),(4,28),(5,42),(6,42)],bytes:=168 }),
 (46,{ agg:=false,cts:=[.oth],bytes:=8 }),
 (47,{ agg:=false,cts:=[.oth],bytes:=8 }),
 (48,{ agg:=false,cts:=[.oth],bytes:=8 }),
 (49,{ agg:=false,cts:=[.oth],bytes:=8 }),
 (50,{ agg:=false,cts:=[.oth],bytes:=8 }),
 (51,{ agg:=false,cts:=[.oth],bytes:=8 }),
 (52,{ agg:=false,cts:=[.oth],bytes:=8 }),
 (53,{ agg:=false,cts:=[.oth],bytes:=8 }),
 (54,{ agg:=false,cts:=[.oth],bytes:=8 }),
 (55,{ agg:=false,cts:=[.oth],bytes:=8 }),
 (56,{ agg:=true,cts:=[.int .i64,.slice 1,.str,.int .i64,.int .i64],offs:=[(0,3),(1,28),(2,9),(3,3),(4,3)],bytes:=64 }),
 (57,{ agg:=true,cts:=[.int .i64,.slice 1,.str,.int .i64,.int .i64],offs:=[(0,3),(1,28),(2,9),(3,3),(4,3)],bytes:=64 }),
 (59,{ agg:=false,cts:=[.oth],bytes:=8 }),
 (60,{ agg:=false,cts:=[.oth],bytes:=8 }),
 (61,{ agg:=false,cts:=[.oth],bytes:=8 }),
 (62,{ agg:=false,cts:=[.oth],bytes:=8 }),
 (63,{ agg:=false,cts:=[.oth],bytes:=8 }),
 (64,{ agg:=false,cts:=[.ptr],bytes:=8 }),
 (65,{ agg:=false,cts:=[.oth],bytes:=8 }),
 (66,{ agg:=false,cts:=[.slice 1],elem:=some 41,bytes:=24 }),
 (67,{ agg:=true,cts:=[.slice 3,.slice 1,.int .i64,.slice 5,.int .i64,.int .i64,.slice 1,.slice 1,.slice 1,.slice 1,.slice 1],offs:=[(0,34),(4,3),(5,3),(6,41),(7,41),(8,28),(9,66),(10,42)],bytes:=216 }),
 (68,{ agg:=true,cts:=[.slice 3,.slice 1,.int .i64,.slice 5,.int .i64,.int .i64,.slice 1,.slice 1,.slice 1,.slice 1,.slice 1],offs:=[(0,34),(4,3),(5,3),(6,41),(7,41),(8,28),(9,66),(10,42)],bytes:=216 }),
 (69,{ agg:=false,cts:=[.oth],bytes:=8 }),
 (70,{ agg:=false,cts:=[.oth],bytes:=8 }),
 (71,{ agg:=false,cts:=[.oth],bytes:=8 }),
 (72,{ agg:=false,cts:=[.oth],bytes:=8 }),
 (73,{ agg:=false,cts:=[.oth],bytes:=8 }),
 (74,{ agg:=false,cts:=[.oth],bytes:=8 }),
 (75,{ agg:=false,cts:=[.oth],bytes:=8 }),
 (76,{ agg:=false,cts:=[.oth],bytes:=8 }),
 (77,{ agg:=false,cts:=[.oth],bytes:=8 }),
 (78,{ agg:=false,cts:=[.oth],bytes:=8 }),
 (79,{ agg:=false,cts:=[.oth],bytes:=8 }),
 (80,{ agg:=false,cts:=[.oth],bytes:=8 }),
 (81,{ agg:=false,cts:=[.oth],bytes:=8 }),
 (82,{ agg:=false,cts:=[.oth],bytes:=8 }),
 (83,{ agg:=false,cts:=[.oth],bytes:=8 }),
 (84,{ agg:=false,cts:=[.oth],bytes:=8 }),
 (85,{ agg:=false,cts:=[.oth],bytes:=8 }),
 (86,{ agg:=false,cts:=[.oth],bytes:=8 }),
 (87,{ agg:=false,cts:=[.oth],bytes:=8 }),
 (88,{ agg:=false,cts:=[.oth],bytes:=8 }),
 (89,{ agg:=false,cts:=[.oth],bytes:=8 }),
 (90,{ agg:=true,cts:=[.str,.int .i64,.int .i64],offs:=[(0,9),(1,3),(2,3)],bytes:=32 }),
 (91,{ agg:=true,cts:=[.str,.int .i64,.int .i64],offs:=[(0,9),(1,3),(2,3)],bytes:=32 }),
 (92,{ agg:=false,cts:=[.oth],bytes:=8 }),
 (93,{ agg:=true,cts:=[.int .i64,.slice 1,.str,.int .i64,.int .i64],offs:=[(0,3),(1,28),(2,9),(3,3),(4,3)],bytes:=64 }),
 (94,{ agg:=false,cts:=[.oth],bytes:=8 }),
 (95,{ agg:=true,cts:=[.str,.int .i64,.int .i64],offs:=[(0,9),(1,3),(2,3)],bytes:=32 }),
 (96,{ agg:=false,cts:=[.oth],bytes:=8 }),
 (97,{ agg:=false,cts:=[.oth],bytes:=8 }),
 (98,{ agg:=false,cts:=[.oth],bytes:=8 }),
 (99,{ agg:=false,cts:=[.oth],bytes:=8 }),
 (100,{ agg:=false,cts:=[.oth],bytes:=8 }),
 (101,{ agg:=false,cts:=[.oth],elem:=some 3,key:=some 9,bytes:=8 }),
 (102,{ agg:=false,cts:=[.oth],bytes:=8 }),
 (103,{ agg:=false,cts:=[.oth],bytes:=8 }),
 (104,{ agg:=false,cts:=[.oth],bytes:=8 }),
 (105,{ agg:=false,cts:=[.oth],bytes:=8 }),
 (106,{ agg:=false,cts:=[.oth],bytes:=8 }),
 (107,{ agg:=false,cts:=[.oth],bytes:=8 }),
 (108,{ agg:=false,cts:=[.oth],bytes:=8 }),
 (109,{ agg:=false,cts:=[.oth],bytes:=8 }),
 (110,{ agg:=false,cts:=[.oth],bytes:=8 }),
 (111,{ agg:=false,cts:=[.oth],bytes:=8 }),
 (112,{ agg:=false,cts:=[.oth],bytes:=8 }),
 (113,{ agg:=false,cts:=[.oth],bytes:=8 }),
 (114,{ agg:=false,cts:=[.slice 1],elem:=some 5,bytes:=24 }),
 (115,{ agg:=false,cts:=[.oth],bytes:=8 }),
 (116,{ agg:=false,cts:=[.oth],bytes:=8 }),
 (117,{ agg:=true,cts:=[.ptr,.ptr,.ptr,.str],offs:=[(0,17),(1,17),(2,17),(3,9)],bytes:=40 }),
 (118,{ agg:=true,cts:=[.ptr,.ptr,.ptr,.str],offs:=[(0,17),(1,17),(2,17),(3,9)],bytes:=40 }),
 (122,{ agg:=false,cts:=[.oth],bytes:=8 }),
 (123,{ agg:=false,cts:=[.int .u32],bytes:=4 }),
 (124,{ agg:=false,cts:=[.int .u8],bytes:=1 }),
 (125,{ agg:=false,cts:=[.int .u8],bytes:=1 }),
 (126,{ agg:=false,cts:=[.oth],bytes:=8 }),
 (127,{ agg:=false,cts:=[.ptr],bytes:=8 }),
 (128,{ agg:=false,cts:=[.int .i32],bytes:=4 }),
 (129,{ agg:=false,cts:=[.int .i32],bytes:=4 }),
 (130,{ agg:=true,cts:=[.int .u64,.int .u64,.int .u32,.int .u8,.int .u8,.int .u8,.int .u8,.oth,.ptr,.int .i32,.int .i32],offs:=[(0,12),(1,12),(2,123),(3,124),(4,5),(5,5),(6,125),(7,126),(8,127),(9,128),(10,129)],bytes:=48 }),
 (131,{ agg:=true,cts:=[.int .u64,.int .u64,.int .u32,.int .u8,.int .u8,.int .u8,.int .u8,.oth,.ptr,.int .i32,.int .i32],offs:=[(0,12),(1,12),(2,123),(3,124),(4,5),(5,5),(6,125),(7,126),(8,127),(9,128),(10,129)],bytes:=48 })]
noncomputable def fn3:FnI:={ nt:=101,res:=[.tmp 4],body:=(Try.f3.body.getD .skip),rts:=[4] }
noncomputable def fn5:FnI:={ nt:=24,res:=[.tmp 4],body:=(Try.f5.body.getD .skip),rts:=[3] }
noncomputable def fn6:FnI:={ nt:=112,res:=[.tmp 4,.tmp 5],body:=(Try.f6.body.getD .skip),rts:=[28,3],loops:=[{ live:=[1,2,6,7,8,9],liveX:=[1,7] },{ live:=[1,2,6,7,8,9,10],liveX:=[1,2,6,7,8,9] }] }
noncomputable def fn7:FnI:={ nt:=20,res:=[.cell 2 34],body:=(Try.f7.body.getD .skip),rts:=[34],frz:=false }
noncomputable def fn8:FnI:={ nt:=56,res:=[.tmp 4,.tmp 5],body:=(Try.f8.body.getD .skip),rts:=[28,3],frz:=false }
noncomputable def fn9:FnI:={ nt:=26,res:=[.tmp 4],body:=(Try.f9.body.getD .skip),rts:=[4],loops:=[{ live:=[0,1,5],liveX:=[] }] }
noncomputable def fn10:FnI:={ nt:=28,res:=[.tmp 4],body:=(Try.f10.body.getD .skip),rts:=[4] }
noncomputable def fn11:FnI:={ nt:=18,res:=[.tmp 4],body:=(Try.f11.body.getD .skip),rts:=[3],muts:=[0] }
noncomputable def fn12:FnI:={ nt:=19,res:=[.tmp 4],body:=(Try.f12.body.getD .skip),rts:=[3],muts:=[0],loops:=[{ live:=[0,1,5],liveX:=[1] }] }
noncomputable def fn13:FnI:={ nt:=21,res:=[.tmp 4],body:=(Try.f13.body.getD .skip),rts:=[3],loops:=[{ live:=[0,1,5],liveX:=[1] }] }
noncomputable def fn19:FnI:={ nt:=27,res:=[.tmp 4],body:=(Try.f19.body.getD .skip),rts:=[3],loops:=[{ live:=[0,1,5],liveX:=[1] }] }
noncomputable def fn20:FnI:={ nt:=28,res:=[.tmp 4],body:=(Try.f20.body.getD .skip),rts:=[3],loops:=[{ live:=[0,1,5],liveX:=[1] }] }
noncomputable def fn21:FnI:={ nt:=27,res:=[.tmp 4],body:=(Try.f21.body.getD .skip),rts:=[3],loops:=[{ live:=[0,1,5],liveX:=[1] }] }
noncomputable def fn22:FnI:={ nt:=161,res:=[.tmp 2],body:=(Try.f22.body.getD .skip),rts:=[4],loops:=[{ live:=[1,3],liveX:=[1] },{ live:=[1,3,4],liveX:=[1,3] },{ live:=[1,5],liveX:=[1] },{ live:=[1,6,7],liveX:=[] },{ live:=[1,6,7,8,9],liveX:=[1,6,7] }] }
noncomputable def fn23:FnI:={ nt:=15,res:=[.tmp 6],body:=(Try.f23.body.getD .skip),rts:=[4] }
noncomputable def fn24:FnI:={ nt:=69,res:=[.tmp 2],body:=(Try.f24.body.getD .skip),rts:=[28],loops:=[{ live:=[1,3,4],liveX:=[1,3] },{ live:=[1,3,5],liveX:=[3] },{ live:=[1,3,5,6],liveX:=[1,3,5] }] }
noncomputable def fn25:FnI:={ nt:=10,res:=[.tmp 4],body:=(Try.f25.body.getD .skip),rts:=[3] }
noncomputable def fn26:FnI:={ nt:=67,res:=[.tmp 12,.tmp 13],body:=(Try.f26.body.getD .skip),rts:=[28,4],frz:=false,loops:=[{ live:=[2,3,4,6,14,15],liveX:=[14] }] }
noncomputable def fn27:FnI:={ nt:=40,res:=[.tmp 4],body:=(Try.f27.body.getD .skip),rts:=[3],loops:=[{ live:=[0,1,5],liveX:=[] }] }
noncomputable def fn28:FnI:={ nt:=23,res:=[.tmp 2],body:=(Try.f28.body.getD .skip),rts:=[31],frz:=false,loops:=[{ live:=[0,3,4],liveX:=[3] }] }
noncomputable def fn29:FnI:={ nt:=22,res:=[.tmp 2],body:=(Try.f29.body.getD .skip),rts:=[23],frz:=false,loops:=[{ live:=[0,3,4],liveX:=[3] }] }
noncomputable def fn30:FnI:={ nt:=23,res:=[.tmp 2],body:=(Try.f30.body.getD .skip),rts:=[32],frz:=false,loops:=[{ live:=[0,3,4],liveX:=[3] }] }
noncomputable def fn31:FnI:={ nt:=156,res:=[.tmp 2],body:=(Try.f31.body.getD .skip),rts:=[4],frz:=false,loops:=[{ live:=[1,3,51,52,53],liveX:=[1] },{ live:=[1,6,76,77,78],liveX:=[1] },{ live:=[1,9,97,98,99],liveX:=[] },{ live:=[1,9,97,98,99,141,142,143],liveX:=[1,9,97,98,99] }] }
noncomputable def fn32:FnI:={ nt:=119,res:=[.tmp 2],body:=(Try.f32.body.getD .skip),rts:=[64],frz:=false,loops:=[{ live:=[1,3,52,53],liveX:=[1,3] },{ live:=[1,3,78,79,80],liveX:=[1,3] }] }
noncomputable def fn33:FnI:={ nt:=4,res:=[],body:=(Try.f33.body.getD .skip),rts:=[],frz:=false,loops:=[{ live:=[0],liveX:=[] }] }
noncomputable def fn34:FnI:={ nt:=132,res:=[.tmp 4],body:=(Try.f34.body.getD .skip),rts:=[4],frz:=false,loops:=[{ live:=[1,2,3,5,18,19,20],liveX:=[5] },{ live:=[1,2,3,5,7,8,9,18,19,20,32,33,34],liveX:=[1,2,3,5,7,8,9,18,19,20] },{ live:=[1,2,3,5,8,13,14,18,19,20,68,69,70],liveX:=[1,2,3,5,8,13,14,18,19,20] }] }
noncomputable def fn35:FnI:={ nt:=23,res:=[.tmp 4],body:=(Try.f35.body.getD .skip),rts:=[3],frz:=false,rops:=[0] }
noncomputable def fn36:FnI:={ nt:=36,res:=[.tmp 4],body:=(Try.f36.body.getD .skip),rts:=[3],loops:=[{ live:=[0,1,9,10,11],liveX:=[0,1] }] }
noncomputable def fn37:FnI:={ nt:=27,res:=[.tmp 4],body:=(Try.f37.body.getD .skip),rts:=[4],loops:=[{ live:=[0,1,5],liveX:=[] }] }
noncomputable def fn38:FnI:={ nt:=26,res:=[.tmp 4],body:=(Try.f38.body.getD .skip),rts:=[4],loops:=[{ live:=[0,1,5],liveX:=[] }] }
noncomputable def fn39:FnI:={ nt:=27,res:=[.tmp 4],body:=(Try.f39.body.getD .skip),rts:=[4],loops:=[{ live:=[0,1,5],liveX:=[] }] }
noncomputable def fn40:FnI:={ nt:=35,res:=[.tmp 4],body:=(Try.f40.body.getD .skip),rts:=[3],muts:=[0],loops:=[{ live:=[0,1,5],liveX:=[1] }] }
noncomputable def fn41:FnI:={ nt:=20,res:=[.tmp 4],body:=(Try.f41.body.getD .skip),rts:=[3],muts:=[0],loops:=[{ live:=[0,1,5],liveX:=[1] }] }
noncomputable def fn42:FnI:={ nt:=49,res:=[.tmp 4],body:=(Try.f42.body.getD .skip),rts:=[3],muts:=[0],loops:=[{ live:=[0,1,5],liveX:=[1] }] }
noncomputable def fn58:FnI:={ nt:=13,res:=[.tmp 4],body:=(Try.f58.body.getD .skip),rts:=[3] }
noncomputable def fn59:FnI:={ nt:=19,res:=[.tmp 4],body:=(Try.f59.body.getD .skip),rts:=[3] }
noncomputable def fn60:FnI:={ nt:=23,res:=[.tmp 4],body:=(Try.f60.body.getD .skip),rts:=[4] }
noncomputable def fn61:FnI:={ nt:=19,res:=[.tmp 4],body:=(Try.f61.body.getD .skip),rts:=[3],loops:=[{ live:=[0,1,5],liveX:=[] }] }
noncomputable def fn62:FnI:={ nt:=29,res:=[.tmp 2],body:=(Try.f62.body.getD .skip),rts:=[4],loops:=[{ live:=[0,3],liveX:=[] }] }
noncomputable def fn63:FnI:={ nt:=42,res:=[.tmp 6],body:=(Try.f63.body.getD .skip),rts:=[3],loops:=[{ live:=[1,2,3,7,8],liveX:=[7] }] }
noncomputable def fn64:FnI:={ nt:=14,res:=[.cell 2 95],body:=(Try.f64.body.getD .skip),rts:=[95],frz:=false }
noncomputable def fn65:FnI:={ nt:=21,res:=[.cell 2 57],body:=(Try.f65.body.getD .skip),rts:=[57],frz:=false }
noncomputable def fn66:FnI:={ nt:=21,res:=[.tmp 4],body:=(Try.f66.body.getD .skip),rts:=[4],frz:=false }
noncomputable def fn67:FnI:={ nt:=29,res:=[.tmp 2],body:=(Try.f67.body.getD .skip),rts:=[4],frz:=false,loops:=[{ live:=[0,3],liveX:=[] }] }
noncomputable def fn68:FnI:={ nt:=125,res:=[.tmp 2],body:=(Try.f68.body.getD .skip),rts:=[4],frz:=false,loops:=[{ live:=[1,3,13,14,15],liveX:=[3] },{ live:=[1,3,6,7,8,13,14,15,27,28,29],liveX:=[1,3,6,7,8,13,14,15] }] }
noncomputable def fn69:FnI:={ nt:=33,res:=[.tmp 2],body:=(Try.f69.body.getD .skip),rts:=[4],frz:=false,loops:=[{ live:=[1,3,7,8,9],liveX:=[3] }] }
noncomputable def fn70:FnI:={ nt:=28,res:=[.tmp 4],body:=(Try.f70.body.getD .skip),rts:=[4],frz:=false,muts:=[0],loops:=[{ live:=[0,5,8,9,10],liveX:=[5] }] }
noncomputable def fn71:FnI:={ nt:=57,res:=[.tmp 4],body:=(Try.f71.body.getD .skip),rts:=[41],frz:=false,rops:=[0],loops:=[{ live:=[0,5,13,14,15],liveX:=[5] }] }
noncomputable def fn72:FnI:={ nt:=20,res:=[.tmp 4],body:=(Try.f72.body.getD .skip),rts:=[3] }
noncomputable def fn73:FnI:={ nt:=20,res:=[.tmp 4],body:=(Try.f73.body.getD .skip),rts:=[4] }
noncomputable def fn74:FnI:={ nt:=31,res:=[.tmp 4],body:=(Try.f74.body.getD .skip),rts:=[4] }
noncomputable def fn75:FnI:={ nt:=20,res:=[.tmp 2],body:=(Try.f75.body.getD .skip),rts:=[9],loops:=[{ live:=[0,3],liveX:=[3] }] }
noncomputable def fn81:FnI:={ nt:=12,res:=[.tmp 4],body:=(Try.f81.body.getD .skip),rts:=[3] }
noncomputable def fn82:FnI:={ nt:=17,res:=[.tmp 2],body:=(Try.f82.body.getD .skip),rts:=[4] }
noncomputable def fn83:FnI:={ nt:=13,res:=[.tmp 2],body:=(Try.f83.body.getD .skip),rts:=[4] }
noncomputable def fn84:FnI:={ nt:=22,res:=[.tmp 2],body:=(Try.f84.body.getD .skip),rts:=[28],frz:=false,loops:=[{ live:=[0,3,4],liveX:=[3] }] }
noncomputable def fn85:FnI:={ nt:=17,res:=[.tmp 2],body:=(Try.f85.body.getD .skip),rts:=[4],frz:=false }
noncomputable def fn86:FnI:={ nt:=13,res:=[.tmp 2],body:=(Try.f86.body.getD .skip),rts:=[4],frz:=false }
noncomputable def fn87:FnI:={ nt:=6,res:=[.tmp 2],body:=(Try.f87.body.getD .skip),rts:=[4] }
noncomputable def fn90:FnI:={ nt:=9,res:=[.tmp 2],body:=(Try.f90.body.getD .skip),rts:=[4] }
noncomputable def fn91:FnI:={ nt:=9,res:=[.tmp 2],body:=(Try.f91.body.getD .skip),rts:=[4],frz:=false }
noncomputable def ctx:Ctx:={ tab:=tab,fns:=[(3,fn3),(5,fn5),(6,fn6),(7,fn7),(8,fn8),(9,fn9),(10,fn10),(11,fn11),(12,fn12),(13,fn13),(19,fn19),(20,fn20),(21,fn21),(22,fn22),(23,fn23),(24,fn24),(25,fn25),(26,fn26),(27,fn27),(28,fn28),(29,fn29),(30,fn30),(31,fn31),(32,fn32),(33,fn33),(34,fn34),(35,fn35),(36,fn36),(37,fn37),(38,fn38),(39,fn39),(40,fn40),(41,fn41),(42,fn42),(58,fn58),(59,fn59),(60,fn60),(61,fn61),(62,fn62),(63,fn63),(64,fn64),(65,fn65),(66,fn66),(67,fn67),(68,fn68),(69,fn69),(70,fn70),(71,fn71),(72,fn72),(73,fn73),(74,fn74),(75,fn75),(81,fn81),(82,fn82),(83,fn83),(84,fn84),(85,fn85),(86,fn86),(87,fn87),(90,fn90),(91,fn91)] }
end Go.Proofs.Ytgoaegbddpmiiaa
