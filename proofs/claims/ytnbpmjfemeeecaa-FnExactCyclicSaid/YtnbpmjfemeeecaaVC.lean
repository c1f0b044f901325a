import Derived.Test.YtnbpmjfemeeecaaVmd
import Derived.Test.YtnbpmjfemeeecaaProg
namespace Go.Proofs.Ytnbpmjfemeeecaa
open Go.VK
def tab:List (Nat×TI):=[
 (1,{ agg:=false,cts:=[.oth],bytes:=8 }),
 (2,{ agg:=false,cts:=[.int .i64],bytes:=8 }),
 (3,{ agg:=false,cts:=[.int .i64],bytes:=8 }),
 (4,{ agg:=false,cts:=[.bool],bytes:=1 }),
 (5,{ agg:=false,cts:=[.int .u8],bytes:=1 }),
 (6,{ agg:=false,cts:=[.int .u8],bytes:=1 }),
 (7,{ agg:=true,cts:=[.int .i64,.int .i64,.bool,.int .u8],offs:=[(0,2),(1,3),(2,4),(3,6)],bytes:=24 }),
 (8,{ agg:=true,cts:=[.int .i64,.int .i64,.bool,.int .u8],offs:=[(0,2),(1,3),(2,4),(3,6)],bytes:=24 }),
 (9,{ agg:=false,cts:=[.str],bytes:=16 }),
 (10,{ agg:=false,cts:=[.str],bytes:=16 }),
 (11,{ agg:=false,cts:=[.str],bytes:=16 }),
 (12,{ agg:=false,cts:=[.int .u64],bytes:=8 }),
 (13,{ agg:=true,cts:=[.str,.int .u64],offs:=[(0,9),(1,12)],bytes:=24 }),
 (14,{ agg:=true,cts:=[.str,.int .u64],offs:=[(0,9),(1,12)],bytes:=24 }),
 (15,{ agg:=false,cts:=[.ptr],bytes:=8 }),
 (16,{ agg:=false,cts:=[.ptr],bytes:=8 }),
 (17,{ agg:=false,cts:=[.ptr],bytes:=8 }),
 (18,{ agg:=true,cts:=[.ptr],offs:=[(0,17)],bytes:=8 }),
 (19,{ agg:=true,cts:=[.ptr],offs:=[(0,17)],bytes:=8 }),
 (21,{ agg:=false,cts:=[.int .i32],bytes:=4 }),
 (22,{ agg:=false,cts:=[.slice 4],elem:=some 24,bytes:=24 }),
 (23,{ agg:=true,cts:=[.str,.str,.bool,.slice 4],offs:=[(0,9),(1,9),(2,4),(3,22)],bytes:=64 }),
 (24,{ agg:=true,cts:=[.str,.str,.bool,.slice 4],offs:=[(0,9),(1,9),(2,4),(3,22)],bytes:=64 }),
 (25,{ agg:=false,cts:=[.oth],bytes:=8 }),
 (26,{ agg:=false,cts:=[.slice 4],elem:=some 28,bytes:=24 }),
 (27,{ agg:=true,cts:=[.str,.str,.bool,.slice 4],offs:=[(0,9),(1,9),(2,4),(3,26)],bytes:=64 }),
 (28,{ agg:=true,cts:=[.str,.str,.bool,.slice 4],offs:=[(0,9),(1,9),(2,4),(3,26)],bytes:=64 }),
 (29,{ agg:=false,cts:=[.slice 1],elem:=some 70,bytes:=24 }),
 (31,{ agg:=false,cts:=[.oth],bytes:=8 }),
 (32,{ agg:=false,cts:=[.oth],bytes:=8 }),
 (33,{ agg:=false,cts:=[.oth],bytes:=8 }),
 (34,{ agg:=false,cts:=[.oth],bytes:=8 }),
 (35,{ agg:=false,cts:=[.oth],bytes:=8 }),
 (36,{ agg:=false,cts:=[.oth],bytes:=8 }),
 (37,{ agg:=false,cts:=[.oth],bytes:=8 }),
 (38,{ agg:=false,cts:=[.slice 4],elem:=some 111,bytes:=24 }),
 (39,{ agg:=false,cts:=[.slice 1],elem:=some 4,bytes:=24 }),
 (40,{ agg:=false,cts:=[.oth],bytes:=8 }),
 (42,{ agg:=false,cts:=[.oth],bytes:=8 }),
 (43,{ agg:=false,cts:=[.slice 4],elem:=some 115,bytes:=24 }),
 (44,{ agg:=false,cts:=[.oth],bytes:=8 }),
 (45,{ agg:=false,cts:=[.oth],bytes:=8 }),
 (46,{ agg:=false,cts:=[.oth],bytes:=8 }),
 (47,{ agg:=false,cts:=[.oth],bytes:=8 }),
 (48,{ agg:=false,cts:=[.oth],bytes:=8 }),
 (50,{ agg:=false,cts:=[.oth],bytes:=8 }),
 (51,{ agg:=false,cts:=[.oth],bytes:=8 }),
 (52,{ agg:=false,cts:=[.slice 3],elem:=some 215,bytes:=24 }),
 (53,{ agg:=false,cts:=[.slice 1],elem:=some 9,bytes:=24 }),
 (54,{ agg:=false,cts:=[.slice 5],elem:=some 218,bytes:=24 }),
 (55,{ agg:=true,cts:=[.slice 3,.slice 1,.int .i64,.slice 5],offs:=[(0,52),(1,53),(2,3),(3,54)],bytes:=80 }),
 (56,{ agg:=true,cts:=[.slice 3,.slice 1,.int .i64,.slice 5],offs:=[(0,52),(1,53),(2,3),(3,54)],bytes:=80 }),
 (57,{ agg:=false,cts:=[.oth],bytes:=8 }),
 (59,{ agg:=false,cts:=[.oth],bytes:=8 }),
 (60,{ agg:=false,cts:=[.slice 3],elem:=some 220,bytes:=24 }),
 (61,{ agg:=false,cts:=[.slice 5],elem:=some 222,bytes:=24 }),
 (62,{ agg:=true,cts:=[.slice 3,.slice 1,.int .i64,.slice 5],offs:=[(0,60),(1,53),(2,3),(3,61)],bytes:=80 }),
 (63,{ agg:=true,cts:=[.slice 3,.slice 1,.int .i64,.slice 5],offs:=[(0,60),(1,53),(2,3),(3,61)],bytes:=80 }),
 (64,{ agg:=false,cts:=[.oth],bytes:=8 }),
 (65,{ agg:=false,cts:=[.oth],bytes:=8 }),
 (66,{ agg:=false,cts:=[.oth],bytes:=8 }),
 (67,{ agg:=false,cts:=[.slice 1],elem:=some 238,bytes:=24 }),
 (68,{ agg:=true,cts:=[.slice 1,.slice 1],offs:=[(0,67),(1,29)],bytes:=48 }),
 (69,{ agg:=true,cts:=[.slice 1,.slice 1],offs:=[(0,67),(1,29)],bytes:=48 }),
 (70,{ agg:=false,cts:=[.slice 1],elem:=some 3,bytes:=24 }),
 (71,{ agg:=false,cts:=[.oth],bytes:=8 }),
 (73,{ agg:=false,cts:=[.oth],bytes:=8 }),
 (74,{ agg:=false,cts:=[.slice 1],elem:=some 239,bytes:=24 }),
 (75,{ agg:=true,cts:=[.slice 1,.slice 1],offs:=[(0,74),(1,29)],bytes:=48 }),
 (76,{ agg:=true,cts:=[.slice 1,.slice 1],offs:=[(0,74),(1,29)],bytes:=48 }),
 (77,{ agg:=false,cts:=[.oth],bytes:=8 }),
 (78,{ agg:=false,cts:=[.oth],bytes:=8 }),
 (79,{ agg:=false,cts:=[.oth],bytes:=8 }),
 (80,{ agg:=false,cts:=[.oth],bytes:=8 }),
 (81,{ agg:=false,cts:=[.oth],bytes:=8 }),
 (82,{ agg:=false,cts:=[.oth],bytes:=8 }),
 (83,{ agg:=false,cts:=[.oth],bytes:=8 }),
 (84,{ agg:=false,cts:=[.oth],bytes:=8 }),
 (86,{ agg:=false,cts:=[.oth],bytes:=8 }),
 (87,{ agg:=false,cts:=[.oth],bytes:=8 }),
 (88,{ agg:=false,cts:=[.slice 6],elem:=some 90,bytes:=24 }),
 (89,{ agg:=true,cts:=[.int .i64,.str,.str,.bool,.slice 4,.slice 6],offs:=[(0,3),(1,28),(5,88)],bytes:=96 }),
 (90,{ agg:=true,cts:=[.int .i64,.str,.str,.bool,.slice 4,.slice 6],offs:=[(0,3),(1,28),(5,88)],bytes:=96 }),
 (92,{ agg:=false,cts:=[.oth],bytes:=8 }),
 (93,{ agg:=false,cts:=[.oth],bytes:=8 }),
 (94,{ agg:=false,cts:=[.oth],bytes:=8 }),
 (95,{ agg:=false,cts:=[.oth],bytes:=8 }),
 (96,{ agg:=false,cts:=[.oth],bytes:=8 }),
 (97,{ agg:=false,cts:=[.oth],bytes:=8 }),
 (98,{ agg:=false,cts:=[.ptr],bytes:=8 }),
 (99,{ agg:=true,cts:=[.slice 1],offs:=[(0,29)],bytes:=24 }),
 (100,{ agg:=true,cts:=[.slice 1],offs:=[(0,29)],bytes:=24 }),
 (101,{ agg:=false,cts:=[.oth],bytes:=8 }),
 (102,{ agg:=false,cts:=[.oth],bytes:=8 }),
 (103,{ agg:=false,cts:=[.oth],bytes:=8 }),
 (104,{ agg:=false,cts:=[.ptr],bytes:=8 }),
 (105,{ agg:=true,cts:=[.slice 1],offs:=[(0,29)],bytes:=24 }),
 (106,{ agg:=true,cts:=[.slice 1],offs:=[(0,29)],bytes:=24 }),
 (107,{ agg:=false,cts:=[.oth],bytes:=8 }),
 (108,{ agg:=false,cts:=[.oth],bytes:=8 }),
 (109,{ agg:=false,cts:=[.oth],bytes:=8 }),
 (110,{ agg:=true,cts:=[.int .i64,.str,.int .i64,.slice 1],offs:=[(0,3),(1,9),(2,3),(3,70)],bytes:=56 }),
 (111,{ agg:=true,cts:=[.int .i64,.str,.int .i64,.slice 1],offs:=[(0,3),(1,9),(2,3),(3,70)],bytes:=56 }),
 (112,{ agg:=false,cts:=[.oth],bytes:=8 }),
 (113,{ agg:=false,cts:=[.oth],bytes:=8 }),
 (114,{ agg:=false,cts:=[.oth],bytes:=8 }),
 (115,{ agg:=true,cts:=[.int .i64,.str,.int .i64,.slice 1],offs:=[(0,3),(1,9),(2,3),(3,70)],bytes:=56 }),
 (116,{ agg:=false,cts:=[.oth],bytes:=8 }),
 (117,{ agg:=false,cts:=[.oth],bytes:=8 }),
 (118,{ agg:=false,cts:=[.oth],bytes:=8 }),
 (119,{ agg:=false,cts:=[.oth],bytes:=8 }),
 (120,{ agg:=false,cts:=[.ptr],bytes:=8 }),
 (121,{ agg:=false,cts:=[.oth],bytes:=8 }),
 (122,{ agg:=false,cts:=[.oth],bytes:=8 }),
 (123,{ agg:=false,cts:=[.oth],bytes:=8 }),
 (124,{ agg:=true,cts:=[.slice 4,.slice 1,.slice 1,.oth,.oth],offs:=[(0,43),(1,70),(2,39),(3,122),(4,123)],bytes:=88 }),
 (125,{ agg:=true,cts:=[.slice 4,.slice 1,.slice 1,.oth,.oth],offs:=[(0,43),(1,70),(2,39),(3,122),(4,123)],bytes:=88 }),
 (126,{ agg:=false,cts:=[.oth],bytes:=8 }),
 (127,{ agg:=false,cts:=[.oth],bytes:=8 }),
 (128,{ agg:=false,cts:=[.oth],bytes:=8 }),
 (129,{ agg:=false,cts:=[.oth],bytes:=8 }),
 (130,{ agg:=false,cts:=[.oth],bytes:=8 }),
 (131,{ agg:=false,cts:=[.oth],bytes:=8 }),
 (132,{ agg:=false,cts:=[.oth],bytes:=8 }),
 (133,{ agg:=false,cts:=[.oth],bytes:=8 }),
 (134,{ agg:=false,cts:=[.ptr],bytes:=8 }),
 (135,{ agg:=false,cts:=[.oth],bytes:=8 }),
 (136,{ agg:=false,cts:=[.oth],bytes:=8 }),
 (137,{ agg:=false,cts:=[.oth],bytes:=8 }),
 (138,{ agg:=false,cts:=[.oth],bytes:=8 }),
 (139,{ agg:=false,cts:=[.oth],bytes:=8 }),
 (140,{ agg:=false,cts:=[.oth],bytes:=8 }),
 (141,{ agg:=false,cts:=[.oth],bytes:=8 }),
 (142,{ agg:=false,cts:=[.oth],bytes:=8 }),
 (143,{ agg:=true,cts:=[.slice 1,.slice 1,.int .i64],offs:=[(0,70),(1,29),(2,3)],bytes:=56 }),
 (144,{ agg:=true,cts:=[.slice 1,.slice 1,.int .i64],offs:=[(0,70),(1,29),(2,3)],bytes:=56 }),
 (145,{ agg:=false,cts:=[.oth],bytes:=8 }),
 (146,{ agg:=true,cts:=[.int .i64,.int .i64],offs:=[(0,3),(1,3)],bytes:=16 }),
 (147,{ agg:=true,cts:=[.int .i64,.int .i64],offs:=[(0,3),(1,3)],bytes:=16 }),
 (149,{ agg:=false,cts:=[.oth],bytes:=8 }),
 (150,{ agg:=false,cts:=[.oth],bytes:=8 }),
 (151,{ agg:=false,cts:=[.oth],bytes:=8 }),
 (152,{ agg:=false,cts:=[.oth],bytes:=8 }),
 (153,{ agg:=false,cts:=[.ptr],bytes:=8 }),
 (154,{ agg:=false,cts:=[.slice 1],elem:=some 159,bytes:=24 }),
 (155,{ agg:=true,cts:=[.slice 3,.slice 1,.int .i64,.slice 5,.slice 1,.slice 1,.slice 1,.slice 1,.int .i64,.bool],offs:=[(0,63),(4,76),(6,70),(7,154),(8,3),(9,4)],bytes:=192 }),
 (156,{ agg:=true,cts:=[.slice 3,.slice 1,.int .i64,.slice 5,.slice 1,.slice 1,.slice 1,.slice 1,.int .i64,.bool],offs:=[(0,63),(4,76),(6,70),(7,154),(8,3),(9,4)],bytes:=192 }),
 (157,{ agg:=false,cts:=[.oth],bytes:=8 }),
 (158,{ agg:=false,cts:=[.oth],bytes:=8 }),
 (159,{ agg:=false,cts:=[.ptr],bytes:=8 }),
 (160,{ agg:=true,cts:=[.int .i64,.slice 1],offs:=[(0,3),(1,154)],bytes:=32 }),
 (161,{ agg:=true,cts:=[.int .i64,.slice 1],offs:=[(0,3),(1,154)],bytes:=32 }),
 (162,{ agg:=false,cts:=[.oth],bytes:=8 }),
 (163,{ agg:=false,cts:=[.oth],bytes:=8 }),
 (164,{ agg:=false,cts:=[.oth],bytes:=8 }),
 (165,{ agg:=false,cts:=[.oth],bytes:=8 }),
 (166,{ agg:=false,cts:=[.slice 258],elem:=some 280,bytes:=24 }),
 (169,{ agg:=false,cts:=[.ptr],bytes:=8 }),
 (170,{ agg:=false,cts:=[.slice 256],elem:=some 301,bytes:=24 }),
 (174,{ agg:=false,cts:=[.oth],bytes:=8 }),
 (175,{ agg:=false,cts:=[.oth],bytes:=8 }),
 (176,{ agg:=false,cts:=[.ptr],bytes:=8 }),
 (177,{ agg:=false,cts:=[.oth],elem:=some 3,key:=some 262,bytes:=8 }),
 (178,{ agg:=false,cts:=[.slice 6],elem:=some 260,bytes:=24 }),
 (179,{ agg:=true,cts:=[.slice 6,.slice 6,.oth,.oth],offs:=[(0,178),(1,178),(2,177),(3,177)],bytes:=64 }),
 (180,{ agg:=true,cts:=[.slice 6,.slice 6,.oth,.oth],offs:=[(0,178),(1,178),(2,177),(3,177)],bytes:=64 }),
 (181,{ agg:=false,cts:=[.oth],bytes:=8 }),
 (182,{ agg:=false,cts:=[.ptr],bytes:=8 }),
 (185,{ agg:=false,cts:=[.oth],bytes:=8 }),
 (186,{ agg:=false,cts:=[.oth],bytes:=8 }),
 (192,{ agg:=false,cts:=[.ptr],bytes:=8 }),
 (193,{ agg:=false,cts:=[.oth],bytes:=8 }),
 (194,{ agg:=false,cts:=[.oth],bytes:=8 }),
 (195,{ agg:=false,cts:=[.ptr],bytes:=8 }),
 (196,{ agg:=false,cts:=[.oth],bytes:=8 }),
 (197,{ agg:=false,cts:=[.oth],bytes:=8 }),
 (198,{ agg:=false,cts:=[.ptr],bytes:=8 }),
 (199,{ agg:=false,cts:=[.slice 1],elem:=some 5,bytes:=24 }),
 (200,{ agg:=true,cts:=[.slice 4,.slice 1,.slice 1],offs:=[(0,43),(1,39),(2,199)],bytes:=72 }),
 (201,{ agg:=true,cts:=[.slice 4,.slice 1,.slice 1],offs:=[(0,43),(1,39),(2,199)],bytes:=72 }),
 (202,{ agg:=false,cts:=[.oth],elem:=some 3,key:=some 3,bytes:=8 }),
 (203,{ agg:=false,cts:=[.oth],bytes:=8 }),
 (204,{ agg:=false,cts:=[.ptr],bytes:=8 }),
 (205,{ agg:=true,cts:=[.ptr,.slice 1],offs:=[(0,204),(1,199)],bytes:=32 }),
 (206,{ agg:=true,cts:=[.ptr,.slice 1],offs:=[(0,204),(1,199)],bytes:=32 }),
 (208,{ agg:=false,cts:=[.oth],bytes:=16 }),
 (210,{ agg:=false,cts:=[.oth],bytes:=8 }),
 (211,{ agg:=false,cts:=[.oth],bytes:=8 }),
 (214,{ agg:=true,cts:=[.str,.int .i64,.int .i64],offs:=[(0,9),(1,3),(2,3)],bytes:=32 }),
 (215,{ agg:=true,cts:=[.str,.int .i64,.int .i64],offs:=[(0,9),(1,3),(2,3)],bytes:=32 }),
 (216,{ agg:=false,cts:=[.oth],bytes:=8 }),
 (217,{ agg:=true,cts:=[.int .i64,.slice 1,.str,.int .i64,.int .i64],offs:=[(0,3),(1,70),(2,9),(3,3),(4,3)],bytes:=64 }),
 (218,{ agg:=true,cts:=[.int .i64,.slice 1,.str,.int .i64,.int .i64],offs:=[(0,3),(1,70),(2,9),(3,3),(4,3)],bytes:=64 }),
 (219,{ agg:=false,cts:=[.oth],bytes:=8 }),
 (220,{ agg:=true,cts:=[.str,.int .i64,.int .i64],offs:=[(0,9),(1,3),(2,3)],bytes:=32 }),
 (221,{ agg:=false,cts:=[.oth],bytes:=8 }),
 (222,{ agg:=true,cts:=[.int .i64,.slice 1,.str,.int .i64,.int .i64],offs:=[(0,3),(1,70),(2,9),(3,3),(4,3)],bytes:=64 }),
 (223,{ agg:=false,cts:=[.slice 1],elem:=some 39,bytes:=24 }),
 (224,{ agg:=false,cts:=[.oth],bytes:=8 }),
 (225,{ agg:=false,cts:=[.oth],bytes:=8 }),
 (226,{ agg:=false,cts:=[.oth],bytes:=8 }),
 (227,{ agg:=false,cts:=[.oth],elem:=some 3,key:=some 9,bytes:=8 }),
 (228,{ agg:=true,cts:=[.slice 3,.slice 1,.int .i64,.slice 5,.int .i64,.int .i64,.slice 1,.slice 1,.slice 1,.slice 1,.slice 1],offs:=[(0,63),(4,3),(5,3),(6,39),(7,39),(8,70),(9,223),(10,29)],bytes:=216 }),
 (229,{ agg:=true,cts:=[.slice 3,.slice 1,.int .i64,.slice 5,.int .i64,.int .i64,.slice 1,.slice 1,.slice 1,.slice 1,.slice 1],offs:=[(0,63),(4,3),(5,3),(6,39),(7,39),(8,70),(9,223),(10,29)],bytes:=216 }),
 (231,{ agg:=false,cts:=[.oth],bytes:=8 }),
 (232,{ agg:=false,cts:=[.oth],bytes:=8 }),
 (234,{ agg:=false,cts:=[.oth],bytes:=8 }),
 (238,{ agg:=false,cts:=[.slice 2],elem:=some 275,bytes:=24 }),
 (239,{ agg:=false,cts:=[.slice 2],elem:=some 147,bytes:=24 }),
 (245,{ agg:=false,cts:=[.ptr],bytes:=8 }),
 (246,{ agg:=true,cts:=[.str,.int .i64,.int .i64,.slice 258],offs:=[(0,9),(1,3),(2,3),(3,166)],bytes:=56 }),
 (247,{ agg:=true,cts:=[.str,.int .i64,.int .i64,.slice 258],offs:=[(0,9),(1,3),(2,3),(3,166)],bytes:=56 }),
 (248,{ agg:=false,cts:=[.oth],bytes:=8 }),
 (249,{ agg:=true,cts:=[.int .i64],offs:=[(0,3)],bytes:=8 }),
 (250,{ agg:=true,cts:=[.int .i64],offs:=[(0,3)],bytes:=8 }),
 (252,{ agg:=false,cts:=[.ptr],bytes:=8 }),
 (253,{ agg:=true,cts:=[.str,.int .i64,.slice 256],offs:=[(0,9),(1,3),(2,170)],bytes:=48 }),
 (254,{ agg:=true,cts:=[.str,.int .i64,.slice 256],offs:=[(0,9),(1,3),(2,170)],bytes:=48 }),
 (255,{ agg:=false,cts:=[.oth],bytes:=8 }),
 (256,{ agg:=false,cts:=[.oth],bytes:=8 }),
 (258,{ agg:=false,cts:=[.oth],bytes:=8 }),
 (259,{ agg:=true,cts:=[.str,.str,.bool,.slice 4,.slice 1,.int .i64],offs:=[(0,28),(4,70),(5,3)],bytes:=96 }),
 (260,{ agg:=true,cts:=[.str,.str,.bool,.slice 4,.slice 1,.int .i64],offs:=[(0,28),(4,70),(5,3)],bytes:=96 }),
 (261,{ agg:=false,cts:=[.oth],bytes:=8 }),
 (266,{ agg:=false,cts:=[.int .u64],bytes:=8 }),
 (269,{ agg:=false,cts:=[.ptr],bytes:=8 }),
 (275,{ agg:=true,cts:=[.int .i64,.int .i64],offs:=[(0,3),(1,3)],bytes:=16 }),
 (281,{ agg:=false,cts:=[.slice 1],elem:=some 169,bytes:=24 }),
 (282,{ agg:=true,cts:=[.int .i64,.int .i64,.int .u8,.slice 1],offs:=[(0,3),(1,3),(2,5),(3,281)],bytes:=48 }),
 (283,{ agg:=true,cts:=[.int .i64,.int .i64,.int .u8,.slice 1],offs:=[(0,3),(1,3),(2,5),(3,281)],bytes:=48 }),
 (284,{ agg:=false,cts:=[.slice 1],elem:=some 88,bytes:=24 }),
 (289,{ agg:=false,cts:=[.int .u32],bytes:=4 }),
 (292,{ agg:=false,cts:=[.int .u64],bytes:=8 }),
 (299,{ agg:=false,cts:=[.ptr],bytes:=8 }),
 (305,{ agg:=true,cts:=[.ptr,.ptr,.ptr,.str],offs:=[(0,17),(1,17),(2,17),(3,9)],bytes:=40 }),
 (306,{ agg:=true,cts:=[.ptr,.ptr,.ptr,.str],offs:=[(0,17),(1,17),(2,17),(3,9)],bytes:=40 }),
 (310,{ agg:=false,cts:=[.int .u8],bytes:=1 }),
 (311,{ agg:=false,cts:=[.int .u8],bytes:=1 }),
 (313,{ agg:=false,cts:=[.int .i32],bytes:=4 }),
 (314,{ agg:=false,cts:=[.int .i32],bytes:=4 }),
 (315,{ agg:=true,cts:=[.int .u64,.int .u64,.int .u32,.int .u8,.int .u8,.int .u8,.int .u8,.oth,.ptr,.int .i32,.int .i32],offs:=[(0,12),(1,12),(2,289),(3,310),(4,5),(5,5),(6,311),(7,312),(8,269),(9,313),(10,314)],bytes:=48 }),
 (316,{ agg:=true,cts:=[.int .u64,.int .u64,.int .u32,.int .u8,.int .u8,.int .u8,.int .u8,.oth,.ptr,.int .i32,.int .i32],offs:=[(0,12),(1,12),(2,289),(3,310),(4,5),(5,5),(6,311),(7,312),(8,269),(9,313),(10,314)],bytes:=48 })]
noncomputable def fn6:FnI:={ nt:=40,res:=[.tmp 2],body:=(Try.f6.body.getD .skip),rts:=[4] }
noncomputable def fn30:FnI:={ nt:=24,res:=[.tmp 4],body:=(Try.f30.body.getD .skip),rts:=[3] }
noncomputable def fn31:FnI:={ nt:=9,res:=[.tmp 2,.tmp 3],body:=(Try.f31.body.getD .skip),rts:=[4,3] }
noncomputable def fn32:FnI:={ nt:=20,res:=[.cell 2 63],body:=(Try.f32.body.getD .skip),rts:=[63],frz:=false }
noncomputable def fn33:FnI:={ nt:=10,res:=[.tmp 2,.tmp 3],body:=(Try.f33.body.getD .skip),rts:=[4,3],frz:=false }
noncomputable def fn34:FnI:={ nt:=28,res:=[.tmp 4],body:=(Try.f34.body.getD .skip),rts:=[4] }
noncomputable def fn38:FnI:={ nt:=22,res:=[.tmp 2],body:=(Try.f38.body.getD .skip),rts:=[70],frz:=false,loops:=[{ live:=[0,3,4],liveX:=[3] }] }
noncomputable def fn40:FnI:={ nt:=26,res:=[.tmp 4],body:=(Try.f40.body.getD .skip),rts:=[4],loops:=[{ live:=[0,1,5],liveX:=[] }] }
noncomputable def fn75:FnI:={ nt:=15,res:=[.tmp 6],body:=(Try.f75.body.getD .skip),rts:=[4] }
noncomputable def fn81:FnI:={ nt:=27,res:=[.tmp 4],body:=(Try.f81.body.getD .skip),rts:=[3],loops:=[{ live:=[0,1,5],liveX:=[1] }] }
noncomputable def fn82:FnI:={ nt:=28,res:=[.tmp 4],body:=(Try.f82.body.getD .skip),rts:=[3],loops:=[{ live:=[0,1,5],liveX:=[1] }] }
noncomputable def fn83:FnI:={ nt:=27,res:=[.tmp 4],body:=(Try.f83.body.getD .skip),rts:=[3],loops:=[{ live:=[0,1,5],liveX:=[1] }] }
noncomputable def fn84:FnI:={ nt:=161,res:=[.tmp 2],body:=(Try.f84.body.getD .skip),rts:=[4],loops:=[{ live:=[1,3],liveX:=[1] },{ live:=[1,3,4],liveX:=[1,3] },{ live:=[1,5],liveX:=[1] },{ live:=[1,6,7],liveX:=[] },{ live:=[1,6,7,8,9],liveX:=[1,6,7] }] }
noncomputable def fn85:FnI:={ nt:=20,res:=[.tmp 2],body:=(Try.f85.body.getD .skip),rts:=[4],loops:=[{ live:=[3,4],liveX:=[] }] }
noncomputable def fn86:FnI:={ nt:=23,res:=[.tmp 2],body:=(Try.f86.body.getD .skip),rts:=[60],frz:=false,loops:=[{ live:=[0,3,4],liveX:=[3] }] }
noncomputable def fn87:FnI:={ nt:=22,res:=[.tmp 2],body:=(Try.f87.body.getD .skip),rts:=[53],frz:=false,loops:=[{ live:=[0,3,4],liveX:=[3] }] }
noncomputable def fn88:FnI:={ nt:=23,res:=[.tmp 2],body:=(Try.f88.body.getD .skip),rts:=[61],frz:=false,loops:=[{ live:=[0,3,4],liveX:=[3] }] }
noncomputable def fn89:FnI:={ nt:=156,res:=[.tmp 2],body:=(Try.f89.body.getD .skip),rts:=[4],frz:=false,loops:=[{ live:=[1,3,51,52,53],liveX:=[1] },{ live:=[1,6,76,77,78],liveX:=[1] },{ live:=[1,9,97,98,99],liveX:=[] },{ live:=[1,9,97,98,99,141,142,143],liveX:=[1,9,97,98,99] }] }
noncomputable def fn90:FnI:={ nt:=119,res:=[.tmp 2],body:=(Try.f90.body.getD .skip),rts:=[134],frz:=false,loops:=[{ live:=[1,3,52,53],liveX:=[1,3] },{ live:=[1,3,78,79,80],liveX:=[1,3] }] }
noncomputable def fn91:FnI:={ nt:=23,res:=[.tmp 2],body:=(Try.f91.body.getD .skip),rts:=[4],frz:=false,loops:=[{ live:=[11,12,13],liveX:=[] }] }
noncomputable def fn92:FnI:={ nt:=27,res:=[.tmp 4],body:=(Try.f92.body.getD .skip),rts:=[4],loops:=[{ live:=[0,1,5],liveX:=[] }] }
noncomputable def fn93:FnI:={ nt:=26,res:=[.tmp 4],body:=(Try.f93.body.getD .skip),rts:=[4],loops:=[{ live:=[0,1,5],liveX:=[] }] }
noncomputable def fn94:FnI:={ nt:=27,res:=[.tmp 4],body:=(Try.f94.body.getD .skip),rts:=[4],loops:=[{ live:=[0,1,5],liveX:=[] }] }
noncomputable def fn135:FnI:={ nt:=12,res:=[.tmp 4],body:=(Try.f135.body.getD .skip),rts:=[3] }
noncomputable def fn144:FnI:={ nt:=13,res:=[.tmp 4],body:=(Try.f144.body.getD .skip),rts:=[3] }
noncomputable def fn145:FnI:={ nt:=19,res:=[.tmp 4],body:=(Try.f145.body.getD .skip),rts:=[3] }
noncomputable def fn146:FnI:={ nt:=23,res:=[.tmp 4],body:=(Try.f146.body.getD .skip),rts:=[4] }
noncomputable def fn147:FnI:={ nt:=19,res:=[.tmp 4],body:=(Try.f147.body.getD .skip),rts:=[3],loops:=[{ live:=[0,1,5],liveX:=[] }] }
noncomputable def fn148:FnI:={ nt:=29,res:=[.tmp 2],body:=(Try.f148.body.getD .skip),rts:=[4],loops:=[{ live:=[0,3],liveX:=[] }] }
noncomputable def fn149:FnI:={ nt:=146,res:=[.tmp 6],body:=(Try.f149.body.getD .skip),rts:=[223],loops:=[{ live:=[1,2,3,7,8,9,10],liveX:=[1,2,3,7,8,9] },{ live:=[1,2,3,7,8,9,11],liveX:=[8,9] },{ live:=[1,2,3,7,8,9,11,12,13],liveX:=[1,2,3,7,8,9,11] },{ live:=[8,9,15],liveX:=[9] },{ live:=[8,9,15,16],liveX:=[8,9,15] },{ live:=[8,9,15,16,17],liveX:=[8,9,15,16] }] }
noncomputable def fn150:FnI:={ nt:=14,res:=[.cell 2 220],body:=(Try.f150.body.getD .skip),rts:=[220],frz:=false }
noncomputable def fn151:FnI:={ nt:=21,res:=[.cell 2 222],body:=(Try.f151.body.getD .skip),rts:=[222],frz:=false }
noncomputable def fn152:FnI:={ nt:=21,res:=[.tmp 4],body:=(Try.f152.body.getD .skip),rts:=[4],frz:=false }
noncomputable def fn153:FnI:={ nt:=29,res:=[.tmp 2],body:=(Try.f153.body.getD .skip),rts:=[4],frz:=false,loops:=[{ live:=[0,3],liveX:=[] }] }
noncomputable def fn154:FnI:={ nt:=4,res:=[],body:=(Try.f154.body.getD .skip),rts:=[],frz:=false,loops:=[{ live:=[0],liveX:=[] }] }
noncomputable def fn155:FnI:={ nt:=125,res:=[.tmp 2],body:=(Try.f155.body.getD .skip),rts:=[4],frz:=false,loops:=[{ live:=[1,3,13,14,15],liveX:=[3] },{ live:=[1,3,6,7,8,13,14,15,27,28,29],liveX:=[1,3,6,7,8,13,14,15] }] }
noncomputable def fn156:FnI:={ nt:=23,res:=[.tmp 4],body:=(Try.f156.body.getD .skip),rts:=[3],frz:=false,rops:=[0] }
noncomputable def fn157:FnI:={ nt:=33,res:=[.tmp 2],body:=(Try.f157.body.getD .skip),rts:=[4],frz:=false,loops:=[{ live:=[1,3,7,8,9],liveX:=[3] }] }
noncomputable def fn158:FnI:={ nt:=28,res:=[.tmp 4],body:=(Try.f158.body.getD .skip),rts:=[4],frz:=false,muts:=[0],loops:=[{ live:=[0,5,8,9,10],liveX:=[5] }] }
noncomputable def fn159:FnI:={ nt:=57,res:=[.tmp 4],body:=(Try.f159.body.getD .skip),rts:=[39],frz:=false,rops:=[0],loops:=[{ live:=[0,5,13,14,15],liveX:=[5] }] }
noncomputable def fn160:FnI:={ nt:=60,res:=[.tmp 4],body:=(Try.f160.body.getD .skip),rts:=[223],frz:=false,loops:=[{ live:=[0,1,5,12,13],liveX:=[5] },{ live:=[0,1,5,6,7,12,13],liveX:=[0,1,5,12,13] }] }
noncomputable def fn161:FnI:={ nt:=72,res:=[.tmp 4],body:=(Try.f161.body.getD .skip),rts:=[70],frz:=false,rops:=[0],loops:=[{ live:=[0,5,17,18,19],liveX:=[5],own:=[5] },{ live:=[0,5,8,17,18,19,32,33,34],liveX:=[0,5,17,18,19],own:=[5] }] }
noncomputable def fn162:FnI:={ nt:=20,res:=[.tmp 4],body:=(Try.f162.body.getD .skip),rts:=[4] }
noncomputable def fn163:FnI:={ nt:=31,res:=[.tmp 4],body:=(Try.f163.body.getD .skip),rts:=[4] }
noncomputable def fn193:FnI:={ nt:=17,res:=[.tmp 2],body:=(Try.f193.body.getD .skip),rts:=[4] }
noncomputable def fn194:FnI:={ nt:=13,res:=[.tmp 2],body:=(Try.f194.body.getD .skip),rts:=[4] }
noncomputable def fn195:FnI:={ nt:=47,res:=[.tmp 2],body:=(Try.f195.body.getD .skip),rts:=[39],loops:=[{ live:=[1,3,4],liveX:=[3] },{ live:=[1,3,4,5],liveX:=[1,3,4] }] }
noncomputable def fn196:FnI:={ nt:=10,res:=[.tmp 4],body:=(Try.f196.body.getD .skip),rts:=[3] }
noncomputable def fn197:FnI:={ nt:=30,res:=[.tmp 6],body:=(Try.f197.body.getD .skip),rts:=[4],loops:=[{ live:=[1,2,3,7],liveX:=[] }] }
noncomputable def fn198:FnI:={ nt:=17,res:=[.tmp 2],body:=(Try.f198.body.getD .skip),rts:=[4],frz:=false }
noncomputable def fn199:FnI:={ nt:=13,res:=[.tmp 2],body:=(Try.f199.body.getD .skip),rts:=[4],frz:=false }
noncomputable def fn200:FnI:={ nt:=18,res:=[.tmp 4],body:=(Try.f200.body.getD .skip),rts:=[4],frz:=false,rops:=[0],loops:=[{ live:=[0,7,8,9],liveX:=[] }] }
noncomputable def fn216:FnI:={ nt:=9,res:=[.tmp 2],body:=(Try.f216.body.getD .skip),rts:=[4] }
noncomputable def fn217:FnI:={ nt:=9,res:=[.tmp 2],body:=(Try.f217.body.getD .skip),rts:=[4],frz:=false }
noncomputable def fn218:FnI:={ nt:=25,res:=[.tmp 4],body:=(Try.f218.body.getD .skip),rts:=[4],frz:=false,rops:=[0] }
noncomputable def ctx:Ctx:={ tab:=tab,fns:=[(6,fn6),(30,fn30),(31,fn31),(32,fn32),(33,fn33),(34,fn34),(38,fn38),(40,fn40),(75,fn75),(81,fn81),(82,fn82),(83,fn83),(84,fn84),(85,fn85),(86,fn86),(87,fn87),(88,fn88),(89,fn89),(90,fn90),(91,fn91),(92,fn92),(93,fn93),(94,fn94),(135,fn135),(144,fn144),(145,fn145),(146,fn146),(147,fn147),(148,fn148),(149,fn149),(150,fn150),(151,fn151),(152,fn152),(153,fn153),(154,fn154),(155,fn155),(156,fn156),(157,fn157),(158,fn158),(159,fn159),(160,fn160),(161,fn161),(162,fn162),(163,fn163),(193,fn193),(194,fn194),(195,fn195),(196,fn196),(197,fn197),(198,fn198),(199,fn199),(200,fn200),(216,fn216),(217,fn217),(218,fn218)],idxB:=some 234 }
end Go.Proofs.Ytnbpmjfemeeecaa
